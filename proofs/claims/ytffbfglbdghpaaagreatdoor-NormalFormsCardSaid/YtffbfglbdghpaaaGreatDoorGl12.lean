/- Contracts (12): rational numbers, the statements' tools, the law. -/
import Derived.Test.YtffbfglbdghpaaaGreatDoorGl11
open Nat (reduceEqDiff reduceAdd)
set_option maxHeartbeats 4000000
set_option linter.unusedSimpArgs false
set_option linter.unusedVariables false
namespace Go.Ev.Gl
variable {fns : T AFn}

/-! ## Numbers of profiles, digits -/
theorem sl_move {S S' : St} {v : AV} {l : List Int} (h : IsSl .i64 S v l) (hn : S.nx ≤ S'.nx) (hh : ∀ c, blkOf v = some c → S'.h.get c = S.h.get c) : IsSl .i64 S' v l := by
  rcases h with h | ⟨b, off, cap, o, cs, rfl, hc, hb, hcs, hel⟩
  · exact .inl h
  · exact .inr ⟨b, off, cap, o, cs, rfl, hc, by omega, by unfold cellsAt at hcs ⊢; rw [hh b rfl]; exact hcs, hel⟩
theorem sl_low {k : IntKind} {X : St} {v : AV} {l : List Int} {c : Nat} (h : IsSl k X v l) (hc : blkOf v = some c) : c < X.nx := by
  rcases h with ⟨_, rfl | rfl⟩ | ⟨b, off, cap, o, cs, rfl, _, hb, _⟩
  · cases hc
  · cases hc
  · cases hc; exact hb
theorem idxN_wr {s p : List Int} (hs : szE 1 s = 0) (hp : ∀ i, i < s.length → 0 ≤ p.getD i 0 ∧ p.getD i 0 < s.getD i 0) {i : Nat} (hi : i < s.length) : IntKind.i64.wrap (idxN s p i * s.getD i 0) = idxN s p i * s.getD i 0 ∧ IntKind.i64.wrap (idxN s p i * s.getD i 0 + p.getD i 0) = idxN s p i * s.getD i 0 + p.getD i 0 := by
  obtain ⟨b1, b2, b3⟩ := idxN_bd hs hp (i := i) (by omega)
  obtain ⟨p1, p2⟩ := hp i hi
  have hx := ((szE_ok (by decide) (by decide) hs).1 (s.getD i 0) (by rw [List.getD_eq_getElem?_getD, List.getElem?_eq_getElem hi]; exact List.getElem_mem hi)).2
  have m1 := Int.mul_nonneg b1 (show 0 ≤ s.getD i 0 by omega)
  have m2 := Int.mul_le_mul (show idxN s p i ≤ 1000 by omega) hx (by omega) (by decide)
  exact ⟨wrap_i64 (by omega) (by omega), wrap_i64 (by omega) (by omega)⟩
def NmI (S : St) (v u : AV) (s p : List Int) (k : Nat) (A : Act') (X : St) : Prop := A.inr = false ∧ Same S X ∧ tmpV 0 A.F = v ∧ tmpV 8 A.F = u ∧ tmpV 9 A.F = .int .i64 ((s.length : Nat) : Int) ∧ ∃ i, i + k = s.length ∧ tmpV 10 A.F = .int .i64 ((i : Nat) : Int) ∧ tmpV 5 A.F = .int .i64 (idxN s p i)
def AtI (S : St) (v u : AV) (s p : List Int) (k : Nat) (A : Act') (X : St) : Prop := A.inr = false ∧ Same S X ∧ tmpV 0 A.F = v ∧ tmpV 1 A.F = u ∧ ∃ i, i + k = s.length ∧ tmpV 6 A.F = .int .i64 ((i : Nat) : Int) ∧ tmpV 5 A.F = .int .i64 (idxN s p i)
set_option maxHeartbeats 4000000 in
theorem number_spec {S : St} {v u : AV} {s p : List Int} (H : Has fns) (h : IsSl .i64 S v s) (h2 : IsSl .i64 S u p) (hs : szE 1 s = 0) (hl : p.length = s.length) (hb : s.length ≤ 1000000) (hp : ∀ i, i < s.length → 0 ≤ p.getD i 0 ∧ p.getD i 0 < s.getD i 0) : wpf fns (.fn 19 [] []) [v, u] S fun r S' => r = .int .i64 (idxN s p s.length) ∧ Same S S' := by
  refine wpf_fn H.f19 (by simp) ?_
  simp only [↓stU, stD, reduceEqDiff, ↓reduceIte, reduceAdd]
  refine wsr ?_
  simp only [↓stU, stD, reduceEqDiff, ↓reduceIte, reduceAdd]
  refine wsr ?_
  simp only [↓stU, stD, reduceEqDiff, ↓reduceIte, reduceAdd]
  refine wpc_seq (wpc_mono (Q := fun o A' X => o = .normal ∧ NmI S v u s p 0 A' X) (wpc_seq (wpc_reg ?_)) ?_)
  · simp only [↓stU, stD, reduceEqDiff, ↓reduceIte, reduceAdd, h2.len, Int.ofNat_eq_natCast]
    refine wpc_block (wpc_loop (NmI S v u s p) ?_ s.length _ _ ⟨rfl, Same.refl _, by simp only [↓stU, stD, reduceEqDiff, ↓reduceIte, reduceAdd], by simp only [↓stU, stD, reduceEqDiff, ↓reduceIte, reduceAdd], by simp only [↓stU, stD, reduceEqDiff, ↓reduceIte, reduceAdd]; rw [hl], 0, by omega, by simp only [↓stU, stD, reduceEqDiff, ↓reduceIte, reduceAdd]; try rfl, by simp only [↓stU, stD, reduceEqDiff, ↓reduceIte, reduceAdd]; try rfl⟩)
    rintro k ⟨F1, inr⟩ X ⟨q0, hX, p0, p8, p9, i, hik, p10, p5⟩
    simp only at q0 p0 p8 p9 p10 p5
    subst q0
    refine wsr ?_
    simp only [↓stU, stD, reduceEqDiff, ↓reduceIte, reduceAdd, p9, p10, dlt]
    by_cases hlt : i < s.length
    rotate_left
    · refine wpc_seq (wpc_non (by simp only [↓stU, stD, reduceEqDiff, ↓reduceIte, decide_eq_false hlt]) (wpc_exit ?_))
      obtain rfl : k = 0 := by omega
      exact ⟨rfl, rfl, hX, by simp only [↓stU, stD, reduceEqDiff, ↓reduceIte, p0], by simp only [↓stU, stD, reduceEqDiff, ↓reduceIte, p8], by simp only [↓stU, stD, reduceEqDiff, ↓reduceIte, p9], i, hik, by simp only [↓stU, stD, reduceEqDiff, ↓reduceIte, p10], by simp only [↓stU, stD, reduceEqDiff, ↓reduceIte, p5]⟩
    refine wpc_seq (wpc_yes (by simp only [↓stU, stD, reduceEqDiff, ↓reduceIte, decide_eq_true hlt]) (wpc_skip ?_))
    try simp only [↓stU, stD, reduceEqDiff, ↓reduceIte]
    obtain ⟨w1, w2⟩ := idxN_wr hs hp hlt
    have hX1 := h.same hX
    have hX2 := h2.same hX
    have ia := hX1.iaddr hlt
    have la := hX1.ld hlt
    have ib := hX2.iaddr (show i < p.length by omega)
    have lb := hX2.ld (show i < p.length by omega)
    have e : idxN s p (i + 1) = idxN s p i * s.getD i 0 + p.getD i 0 := rfl
    refine wpc_seq (wpc_block (wpc_seq (wpc_reg ?_)))
    simp only [↓stU, stD, reduceEqDiff, ↓reduceIte, reduceAdd, p8, p10, natOf_cast, ib, lb]
    refine wpc_reg ?_
    simp only [↓stU, stD, reduceEqDiff, ↓reduceIte, reduceAdd, p0, p5, natOf_cast, ia, la, w1, w2]
    refine wpc_reg ?_
    simp only [↓stU, stD, reduceEqDiff, ↓reduceIte, reduceAdd, p10, wadd1 (a := i) (by omega)]
    exact ⟨k - 1, by omega, rfl, hX, by simp only [↓stU, stD, reduceEqDiff, ↓reduceIte, p0], by simp only [↓stU, stD, reduceEqDiff, ↓reduceIte, p8], by simp only [↓stU, stD, reduceEqDiff, ↓reduceIte, p9], i + 1, by omega, by simp only [↓stU, stD, reduceEqDiff, ↓reduceIte, reduceAdd], by rw [e]; simp only [↓stU, stD, reduceEqDiff, ↓reduceIte, reduceAdd]⟩
  rintro o ⟨F1, inr⟩ X ⟨rfl, q0, hX, _, _, _, i, hik, _, p5⟩
  simp only at q0 p5
  subst q0
  obtain rfl : i = s.length := by omega
  try simp only [↓stU, stD, reduceEqDiff, ↓reduceIte, reduceAdd]
  refine wsr ?_
  simp only [↓stU, stD, reduceEqDiff, ↓reduceIte, reduceAdd, p5]
  refine wpc_ret ?_
  simp only [↓stU, stD, reduceEqDiff, ↓reduceIte, reduceAdd]
  exact hX
set_option maxHeartbeats 4000000 in
theorem at_spec {S : St} {v u : AV} {s p : List Int} (H : Has fns) (h : IsSl .i64 S v s) (h2 : IsSl .i64 S u p) (hs : szE 1 s = 0) (hl : p.length = s.length) (hb : s.length ≤ 1000000) (hp : ∀ i, i < s.length → 0 ≤ p.getD i 0 ∧ p.getD i 0 < s.getD i 0) : wpf fns (.fn 21 [] []) [v, u] S fun r S' => r = .int .i64 (idxN s p s.length) ∧ Same S S' := by
  refine wpf_fn H.f21 (by simp) ?_
  simp only [↓stU, stD, reduceEqDiff, ↓reduceIte, reduceAdd]
  refine wsr ?_
  simp only [↓stU, stD, reduceEqDiff, ↓reduceIte, reduceAdd]
  refine wsr ?_
  simp only [↓stU, stD, reduceEqDiff, ↓reduceIte, reduceAdd]
  refine wpc_seq (wpc_mono (Q := fun o A' X => o = .normal ∧ AtI S v u s p 0 A' X) (wpc_seq (wpc_reg ?_)) ?_)
  · simp only [↓stU, stD, reduceEqDiff, ↓reduceIte, reduceAdd]
    refine wpc_block (wpc_loop (AtI S v u s p) ?_ s.length _ _ ⟨rfl, Same.refl _, by simp only [↓stU, stD, reduceEqDiff, ↓reduceIte, reduceAdd], by simp only [↓stU, stD, reduceEqDiff, ↓reduceIte, reduceAdd], 0, by omega, by simp only [↓stU, stD, reduceEqDiff, ↓reduceIte, reduceAdd]; try rfl, by simp only [↓stU, stD, reduceEqDiff, ↓reduceIte, reduceAdd]; try rfl⟩)
    rintro k ⟨F1, inr⟩ X ⟨q0, hX, p0, p1, i, hik, p6, p5⟩
    simp only at q0 p0 p1 p6 p5
    subst q0
    have hX1 := h.same hX
    have hX2 := h2.same hX
    have lX := hX1.len
    simp only [Int.ofNat_eq_natCast] at lX
    refine wss ?_
    simp only [↓stU, stD, reduceEqDiff, ↓reduceIte, reduceAdd, p0, p6, lX, dlt]
    by_cases hlt : i < s.length
    rotate_left
    · refine wpc_non (by simp only [↓stU, stD, reduceEqDiff, ↓reduceIte, decide_eq_false hlt]) (wpc_exit ?_)
      obtain rfl : k = 0 := by omega
      exact ⟨rfl, rfl, hX, by simp only [↓stU, stD, reduceEqDiff, ↓reduceIte, p0], by simp only [↓stU, stD, reduceEqDiff, ↓reduceIte, p1], i, hik, by simp only [↓stU, stD, reduceEqDiff, ↓reduceIte, p6], by simp only [↓stU, stD, reduceEqDiff, ↓reduceIte, p5]⟩
    refine wpc_yes (by simp only [↓stU, stD, reduceEqDiff, ↓reduceIte, decide_eq_true hlt]) (wpc_skip ?_)
    try simp only [↓stU, stD, reduceEqDiff, ↓reduceIte]
    obtain ⟨w1, w2⟩ := idxN_wr hs hp hlt
    have ia := hX1.iaddr hlt
    have la := hX1.ld hlt
    have ib := hX2.iaddr (show i < p.length by omega)
    have lb := hX2.ld (show i < p.length by omega)
    have e : idxN s p (i + 1) = idxN s p i * s.getD i 0 + p.getD i 0 := rfl
    refine wpc_seq (wpc_block (wpc_drq ?_))
    simp only [↓sU, sD, reduceEqDiff, ↓reduceIte, reduceAdd, IsSl.self hX1, IsSl.self hX2, p0, p1, p5, p6, natOf_cast, ia, la, ib, lb, w1, w2]
    refine wpc_reg ?_
    simp only [↓sU, sD, reduceEqDiff, ↓reduceIte, reduceAdd, p6, wadd1 (a := i) (by omega)]
    exact ⟨k - 1, by omega, rfl, hX.trans (Same.nx X _), by simp only [↓sU, sD, reduceEqDiff, ↓reduceIte, reduceAdd, p0], by simp only [↓sU, sD, reduceEqDiff, ↓reduceIte, reduceAdd, p1], i + 1, by omega, by simp only [↓sU, sD, reduceEqDiff, ↓reduceIte, reduceAdd], by rw [e]; simp only [↓sU, sD, reduceEqDiff, ↓reduceIte, reduceAdd]⟩
  rintro o ⟨F1, inr⟩ X ⟨rfl, q0, hX, _, _, i, hik, _, p5⟩
  simp only at q0 p5
  subst q0
  obtain rfl : i = s.length := by omega
  try simp only [↓stU, stD, reduceEqDiff, ↓reduceIte, reduceAdd]
  refine wsr ?_
  simp only [↓stU, stD, reduceEqDiff, ↓reduceIte, reduceAdd, p5]
  refine wpc_ret ?_
  simp only [↓stU, stD, reduceEqDiff, ↓reduceIte, reduceAdd]
  exact hX
/-- what is left of a number behind k digits -/
def qdN (s : List Int) (x : Int) : Nat → Int
  | 0 => x
  | k + 1 => qdN s x k / s.getD (s.length - 1 - k) 0
def dgL (s : List Int) (x : Int) : List Int := (List.range s.length).map fun j => (qdN s x (s.length - 1 - j)).tmod (s.getD j 0)
theorem qdN_bd {s : List Int} {x : Int} (hs : ∀ y ∈ s, 1 ≤ y) (h0 : 0 ≤ x) (h1 : x ≤ 1000) : ∀ {k : Nat}, 0 ≤ qdN s x k ∧ qdN s x k ≤ 1000
  | 0 => ⟨h0, h1⟩
  | k + 1 => by
    obtain ⟨a, b⟩ := qdN_bd hs h0 h1 (k := k)
    have hp : 0 ≤ s.getD (s.length - 1 - k) 0 := by
      by_cases h : s.length - 1 - k < s.length
      · have := hs (s.getD (s.length - 1 - k) 0) (by rw [List.getD_eq_getElem?_getD, List.getElem?_eq_getElem h]; exact List.getElem_mem h)
        omega
      · rw [List.getD_eq_getElem?_getD, List.getElem?_eq_none (by omega)]
        exact Int.le_refl _
    have e1 := Int.ediv_nonneg a hp
    have e2 := Int.ediv_le_self (s.getD (s.length - 1 - k) 0) a
    show 0 ≤ qdN s x k / _ ∧ qdN s x k / _ ≤ 1000
    omega
def DgI (S : St) (v : AV) (s : List Int) (x : Int) (rb : Nat) (k : Nat) (A : Act') (X : St) : Prop := A.inr = false ∧ SameBut rb S X ∧ tmpV 0 A.F = v ∧ tmpV 5 A.F = .sl rb 0 s.length s.length false ∧ ∃ i L, i + k = s.length ∧ tmpV 6 A.F = .int .i64 (((s.length : Nat) : Int) - 1 - ((i : Nat) : Int)) ∧ tmpV 1 A.F = .int .i64 (qdN s x i) ∧ X.h.get rb = some (.cells (cells64 L) false 0) ∧ L.length = s.length ∧ ∀ j, j < s.length → s.length - i ≤ j → L.getD j 0 = (qdN s x (s.length - 1 - j)).tmod (s.getD j 0)
set_option maxHeartbeats 4000000 in
theorem digits_spec {S : St} {v : AV} {s : List Int} {x : Int} (H : Has fns) (h : IsSl .i64 S v s) (hs : ∀ y ∈ s, 1 ≤ y ∧ y ≤ 1000) (hb : s.length ≤ 1000) (hx : 0 ≤ x ∧ x ≤ 1000) : wpf fns (.fn 23 [] []) [v, .int .i64 x] S fun r S' => IsSl .i64 S' r (dgL s x) ∧ Same S S' := by
  refine wpf_fn H.f23 (by simp) ?_
  simp only [↓stU, stD, reduceEqDiff, ↓reduceIte, reduceAdd]
  refine wsr ?_
  simp only [↓stU, stD, reduceEqDiff, ↓reduceIte, reduceAdd]
  refine wsr ?_
  simp only [↓stU, stD, reduceEqDiff, ↓reduceIte, reduceAdd, h.len, Int.ofNat_eq_natCast]
  refine wpo_al (evA_mk (n := s.length) (by simp only [↓stU, stD, reduceEqDiff, ↓reduceIte, reduceAdd, natOf_cast]) (by simp only [↓stU, stD, reduceEqDiff, ↓reduceIte, reduceAdd, natOf_cast]) (by unfold room; omega) (by unfold room; omega)) ?_
  intro M1 k1 o1 cM
  rw [zeros64] at cM
  simp only [↓stU, stD, reduceEqDiff, ↓reduceIte, reduceAdd]
  have hM := h.same k1
  have lM := hM.len
  simp only [Int.ofNat_eq_natCast] at lM
  have w0 : IntKind.i64.wrap (((s.length : Nat) : Int) - 1) = ((s.length : Nat) : Int) - 1 := wrap_i64 (by omega) (by omega)
  refine wpc_seq (wpc_mono (Q := fun o A' X => o = .normal ∧ DgI M1 v s x S.nx 0 A' X) (wpc_seq (wpc_reg ?_)) ?_)
  · simp only [↓stU, stD, reduceEqDiff, ↓reduceIte, reduceAdd, lM, w0]
    refine wpc_block (wpc_loop (DgI M1 v s x S.nx) ?_ s.length _ _ ⟨rfl, SameBut.refl _ _, by simp only [↓stU, stD, reduceEqDiff, ↓reduceIte, reduceAdd], by simp only [↓stU, stD, reduceEqDiff, ↓reduceIte, reduceAdd], 0, _, by omega, by simp only [↓stU, stD, reduceEqDiff, ↓reduceIte, reduceAdd]; congr 1; omega, by simp only [↓stU, stD, reduceEqDiff, ↓reduceIte, reduceAdd]; try rfl, cM, List.length_replicate .., fun j hj hj2 => absurd hj2 (by omega)⟩)
    rintro k ⟨F1, inr⟩ X ⟨q0, hX, p0, p5, i, L, hik, p6, p1, cX, hL, hLg⟩
    simp only at q0 p0 p5 p6 p1
    subst q0
    refine wss ?_
    simp only [↓stU, stD, reduceEqDiff, ↓reduceIte, reduceAdd, p6]
    by_cases hlt : i < s.length
    rotate_left
    · refine wpc_non (by simp only [↓stU, stD, reduceEqDiff, ↓reduceIte, decide_eq_false (show ¬ ((s.length : Nat) : Int) - 1 - ((i : Nat) : Int) ≥ 0 by omega)]) (wpc_exit ?_)
      obtain rfl : k = 0 := by omega
      exact ⟨rfl, rfl, hX, by simp only [↓stU, stD, reduceEqDiff, ↓reduceIte, p0], by simp only [↓stU, stD, reduceEqDiff, ↓reduceIte, p5], i, L, hik, by simp only [↓stU, stD, reduceEqDiff, ↓reduceIte, p6], by simp only [↓stU, stD, reduceEqDiff, ↓reduceIte, p1], cX, hL, hLg⟩
    refine wpc_yes (by simp only [↓stU, stD, reduceEqDiff, ↓reduceIte, decide_eq_true (show ((s.length : Nat) : Int) - 1 - ((i : Nat) : Int) ≥ 0 by omega)]) (wpc_skip ?_)
    try simp only [↓stU, stD, reduceEqDiff, ↓reduceIte]
    have ej : ((s.length : Nat) : Int) - 1 - ((i : Nat) : Int) = ((s.length - 1 - i : Nat) : Int) := by omega
    obtain ⟨j, hj⟩ : ∃ j, s.length - 1 - i = j := ⟨_, rfl⟩
    have hjs : j < s.length := by omega
    rw [ej, hj] at p6
    have hX1 := sl_move hM hX.1 fun c hc => hX.2 c (sl_low hM hc) (fun e => by have := sl_low h hc; omega)
    have ia := hX1.iaddr hjs
    have la := hX1.ld hjs
    obtain ⟨b1, b2⟩ := hs (s.getD j 0) (by rw [List.getD_eq_getElem?_getD, List.getElem?_eq_getElem hjs]; exact List.getElem_mem hjs)
    have hq := qdN_bd (s := s) (x := x) (fun y hy => (hs y hy).1) hx.1 hx.2 (k := i)
    have eq1 : qdN s x (i + 1) = qdN s x i / s.getD j 0 := by rw [← hj]; rfl
    have eg : (qdN s x (s.length - 1 - j)).tmod (s.getD j 0) = (qdN s x i).tmod (s.getD j 0) := by rw [show s.length - 1 - j = i by omega]
    have e1 : binV .rem (.p .int) (.int .i64 (qdN s x i)) (.int .i64 (s.getD j 0)) = some (.int .i64 ((qdN s x i).tmod (s.getD j 0))) := bin_rem_t (.p .int) (by omega)
    have e2 : binV .quo (.p .int) (.int .i64 (qdN s x i)) (.int .i64 (s.getD j 0)) = some (.int .i64 (qdN s x i / s.getD j 0)) := bin_quo_i (.p .int) (by omega) (by omega) (by omega)
    have hri := row_ia (b := S.nx) (o := false) hjs
    have hjL : j < L.length := by omega
    refine wpc_seq (wpc_block (wpc_seq (wpc_reg ?_)))
    simp only [↓stU, stD, reduceEqDiff, ↓reduceIte, reduceAdd, p0, p5, p6, p1, natOf_cast, ia, la, e1, hri]
    refine wpo_x (fun call => by simp only [↓stU, stD, reduceEqDiff, ↓reduceIte, reduceAdd, evX_st, cells_int]; exact st64 (S := X) cX hjL) ?_
    simp only [↓stU, stD, reduceEqDiff, ↓reduceIte, reduceAdd]
    have lS : S.nx < X.nx := by have := hX.1; omega
    have hX2 := sl_move (S' := ⟨X.h.set S.nx (some (.cells (cells64 (L.set j ((qdN s x i).tmod (s.getD j 0)))) false 0)), X.nx⟩) hX1 (Nat.le_refl _) fun c hc => by
      simp only
      rw [T.get_set, if_neg (fun e => by have := sl_low h hc; omega)]
    have ia2 := hX2.iaddr hjs
    have la2 := hX2.ld hjs
    simp only at la2
    refine wpc_reg ?_
    simp only [↓stU, stD, reduceEqDiff, ↓reduceIte, reduceAdd, p0, p1, p6, natOf_cast, ia2, la2, e2]
    refine wpc_reg ?_
    have w3 : IntKind.i64.wrap (((j : Nat) : Int) - 1) = ((s.length : Nat) : Int) - 1 - ((i + 1 : Nat) : Int) := by rw [wrap_i64 (by omega) (by omega)]; omega
    simp only [↓stU, stD, reduceEqDiff, ↓reduceIte, reduceAdd, p6, w3]
    refine ⟨k - 1, by omega, rfl, hX.put _, by simp only [↓stU, stD, reduceEqDiff, ↓reduceIte, p0], by simp only [↓stU, stD, reduceEqDiff, ↓reduceIte, p5], i + 1, _, by omega, by simp only [↓stU, stD, reduceEqDiff, ↓reduceIte, reduceAdd], by rw [eq1]; simp only [↓stU, stD, reduceEqDiff, ↓reduceIte, reduceAdd], by simp only; rw [T.get_set, if_pos rfl], by rw [List.length_set]; exact hL, fun q hq1 hq2 => ?_⟩
    rw [getD_set hjL]
    split
    · rename_i e; rw [e, eg]
    · exact hLg q hq1 (by omega)
  rintro o ⟨F1, inr⟩ X ⟨rfl, q0, hX, _, p5, i, L, hik, _, _, cX, hL, hLg⟩
  simp only at q0 p5
  subst q0
  try simp only [↓stU, stD, reduceEqDiff, ↓reduceIte, reduceAdd]
  refine wsr ?_
  simp only [↓stU, stD, reduceEqDiff, ↓reduceIte, reduceAdd, p5]
  refine wpc_ret ?_
  simp only [↓stU, stD, reduceEqDiff, ↓reduceIte, reduceAdd]
  have eL : L = dgL s x := by
    refine List.ext_getElem (by rw [hL]; unfold dgL; rw [List.length_map, List.length_range]) fun j j1 j2 => ?_
    have := hLg j (by omega) (by omega)
    rw [List.getD_eq_getElem?_getD, List.getElem?_eq_getElem j1] at this
    simp only [dgL, List.getElem_map, List.getElem_range]
    exact this
  rw [eL] at cX hL
  exact ⟨row_sl cX (by have := hX.1; omega) hL, SameBut.same k1 hX (Nat.le_refl _)⟩
set_option maxHeartbeats 4000000 in
theorem xdigits_spec {S : St} {v : AV} {s : List Int} {x : Int} (H : Has fns) (h : IsSl .i64 S v s) (hs : ∀ y ∈ s, 1 ≤ y ∧ y ≤ 1000) (hb : s.length ≤ 1000) (hx : 0 ≤ x ∧ x ≤ 1000) : wpf fns (.fn 24 [] []) [v, .int .i64 x] S fun r S' => IsSl .i64 S' r (dgL s x) ∧ Same S S' := by
  refine wpf_fn H.f24 (by simp) ?_
  simp only [↓stU, stD, reduceEqDiff, ↓reduceIte, reduceAdd]
  refine wsr ?_
  simp only [↓stU, stD, reduceEqDiff, ↓reduceIte, reduceAdd]
  refine wsr ?_
  simp only [↓stU, stD, reduceEqDiff, ↓reduceIte, reduceAdd, h.len, Int.ofNat_eq_natCast]
  refine wpo_al (evA_mk (n := s.length) (by simp only [↓stU, stD, reduceEqDiff, ↓reduceIte, reduceAdd, natOf_cast]) (by simp only [↓stU, stD, reduceEqDiff, ↓reduceIte, reduceAdd, natOf_cast]) (by unfold room; omega) (by unfold room; omega)) ?_
  intro M1 k1 o1 cM
  rw [zeros64] at cM
  simp only [↓stU, stD, reduceEqDiff, ↓reduceIte, reduceAdd]
  have hM := h.same k1
  have lM := hM.len
  simp only [Int.ofNat_eq_natCast] at lM
  have w0 : IntKind.i64.wrap (((s.length : Nat) : Int) - 1) = ((s.length : Nat) : Int) - 1 := wrap_i64 (by omega) (by omega)
  refine wpc_seq (wpc_mono (Q := fun o A' X => o = .normal ∧ DgI M1 v s x S.nx 0 A' X) (wpc_seq (wpc_reg ?_)) ?_)
  · simp only [↓stU, stD, reduceEqDiff, ↓reduceIte, reduceAdd, lM, w0]
    refine wpc_block (wpc_loop (DgI M1 v s x S.nx) ?_ s.length _ _ ⟨rfl, SameBut.refl _ _, by simp only [↓stU, stD, reduceEqDiff, ↓reduceIte, reduceAdd], by simp only [↓stU, stD, reduceEqDiff, ↓reduceIte, reduceAdd], 0, _, by omega, by simp only [↓stU, stD, reduceEqDiff, ↓reduceIte, reduceAdd]; congr 1; omega, by simp only [↓stU, stD, reduceEqDiff, ↓reduceIte, reduceAdd]; try rfl, cM, List.length_replicate .., fun j hj hj2 => absurd hj2 (by omega)⟩)
    rintro k ⟨F1, inr⟩ X ⟨q0, hX, p0, p5, i, L, hik, p6, p1, cX, hL, hLg⟩
    simp only at q0 p0 p5 p6 p1
    subst q0
    refine wss ?_
    simp only [↓stU, stD, reduceEqDiff, ↓reduceIte, reduceAdd, p6]
    by_cases hlt : i < s.length
    rotate_left
    · refine wpc_non (by simp only [↓stU, stD, reduceEqDiff, ↓reduceIte, decide_eq_false (show ¬ ((s.length : Nat) : Int) - 1 - ((i : Nat) : Int) ≥ 0 by omega)]) (wpc_exit ?_)
      obtain rfl : k = 0 := by omega
      exact ⟨rfl, rfl, hX, by simp only [↓stU, stD, reduceEqDiff, ↓reduceIte, p0], by simp only [↓stU, stD, reduceEqDiff, ↓reduceIte, p5], i, L, hik, by simp only [↓stU, stD, reduceEqDiff, ↓reduceIte, p6], by simp only [↓stU, stD, reduceEqDiff, ↓reduceIte, p1], cX, hL, hLg⟩
    refine wpc_yes (by simp only [↓stU, stD, reduceEqDiff, ↓reduceIte, decide_eq_true (show ((s.length : Nat) : Int) - 1 - ((i : Nat) : Int) ≥ 0 by omega)]) (wpc_skip ?_)
    try simp only [↓stU, stD, reduceEqDiff, ↓reduceIte]
    have ej : ((s.length : Nat) : Int) - 1 - ((i : Nat) : Int) = ((s.length - 1 - i : Nat) : Int) := by omega
    obtain ⟨j, hj⟩ : ∃ j, s.length - 1 - i = j := ⟨_, rfl⟩
    have hjs : j < s.length := by omega
    rw [ej, hj] at p6
    have hX1 := sl_move hM hX.1 fun c hc => hX.2 c (sl_low hM hc) (fun e => by have := sl_low h hc; omega)
    have ia := hX1.iaddr hjs
    have la := hX1.ld hjs
    obtain ⟨b1, b2⟩ := hs (s.getD j 0) (by rw [List.getD_eq_getElem?_getD, List.getElem?_eq_getElem hjs]; exact List.getElem_mem hjs)
    have hq := qdN_bd (s := s) (x := x) (fun y hy => (hs y hy).1) hx.1 hx.2 (k := i)
    have eq1 : qdN s x (i + 1) = qdN s x i / s.getD j 0 := by rw [← hj]; rfl
    have eg : (qdN s x (s.length - 1 - j)).tmod (s.getD j 0) = (qdN s x i).tmod (s.getD j 0) := by rw [show s.length - 1 - j = i by omega]
    have e1 : binV .rem (.p .int) (.int .i64 (qdN s x i)) (.int .i64 (s.getD j 0)) = some (.int .i64 ((qdN s x i).tmod (s.getD j 0))) := bin_rem_t (.p .int) (by omega)
    have e2 : binV .quo (.p .int) (.int .i64 (qdN s x i)) (.int .i64 (s.getD j 0)) = some (.int .i64 (qdN s x i / s.getD j 0)) := bin_quo_i (.p .int) (by omega) (by omega) (by omega)
    have hri := row_ia (b := S.nx) (o := false) hjs
    have hjL : j < L.length := by omega
    refine wpc_seq (wpc_block (wpc_seq (wpc_reg ?_)))
    simp only [↓stU, stD, reduceEqDiff, ↓reduceIte, reduceAdd, p0, p5, p6, p1, natOf_cast, ia, la, e1, hri]
    refine wpo_x (fun call => by simp only [↓stU, stD, reduceEqDiff, ↓reduceIte, reduceAdd, evX_st, cells_int]; exact st64 (S := X) cX hjL) ?_
    simp only [↓stU, stD, reduceEqDiff, ↓reduceIte, reduceAdd]
    have lS : S.nx < X.nx := by have := hX.1; omega
    have hX2 := sl_move (S' := ⟨X.h.set S.nx (some (.cells (cells64 (L.set j ((qdN s x i).tmod (s.getD j 0)))) false 0)), X.nx⟩) hX1 (Nat.le_refl _) fun c hc => by
      simp only
      rw [T.get_set, if_neg (fun e => by have := sl_low h hc; omega)]
    have ia2 := hX2.iaddr hjs
    have la2 := hX2.ld hjs
    simp only at la2
    refine wpc_reg ?_
    simp only [↓stU, stD, reduceEqDiff, ↓reduceIte, reduceAdd, p0, p1, p6, natOf_cast, ia2, la2, e2]
    refine wpc_reg ?_
    have w3 : IntKind.i64.wrap (((j : Nat) : Int) - 1) = ((s.length : Nat) : Int) - 1 - ((i + 1 : Nat) : Int) := by rw [wrap_i64 (by omega) (by omega)]; omega
    simp only [↓stU, stD, reduceEqDiff, ↓reduceIte, reduceAdd, p6, w3]
    refine ⟨k - 1, by omega, rfl, hX.put _, by simp only [↓stU, stD, reduceEqDiff, ↓reduceIte, p0], by simp only [↓stU, stD, reduceEqDiff, ↓reduceIte, p5], i + 1, _, by omega, by simp only [↓stU, stD, reduceEqDiff, ↓reduceIte, reduceAdd], by rw [eq1]; simp only [↓stU, stD, reduceEqDiff, ↓reduceIte, reduceAdd], by simp only; rw [T.get_set, if_pos rfl], by rw [List.length_set]; exact hL, fun q hq1 hq2 => ?_⟩
    rw [getD_set hjL]
    split
    · rename_i e; rw [e, eg]
    · exact hLg q hq1 (by omega)
  rintro o ⟨F1, inr⟩ X ⟨rfl, q0, hX, _, p5, i, L, hik, _, _, cX, hL, hLg⟩
  simp only at q0 p5
  subst q0
  try simp only [↓stU, stD, reduceEqDiff, ↓reduceIte, reduceAdd]
  refine wsr ?_
  simp only [↓stU, stD, reduceEqDiff, ↓reduceIte, reduceAdd, p5]
  refine wpc_ret ?_
  simp only [↓stU, stD, reduceEqDiff, ↓reduceIte, reduceAdd]
  have eL : L = dgL s x := by
    refine List.ext_getElem (by rw [hL]; unfold dgL; rw [List.length_map, List.length_range]) fun j j1 j2 => ?_
    have := hLg j (by omega) (by omega)
    rw [List.getD_eq_getElem?_getD, List.getElem?_eq_getElem j1] at this
    simp only [dgL, List.getElem_map, List.getElem_range]
    exact this
  rw [eL] at cX hL
  exact ⟨row_sl cX (by have := hX.1; omega) hL, SameBut.same k1 hX (Nat.le_refl _)⟩
end Go.Ev.Gl

namespace Go.Ev.Gl
variable {fns : T AFn}

/-! ## Index, Profile -/
def badI (s p : List Int) (i : Nat) : Prop := p.getD i 0 < 0 ∨ s.getD i 0 ≤ p.getD i 0
instance badIDec {s p : List Int} {i : Nat} : Decidable (badI s p i) := by unfold badI; exact inferInstance
/-- the first error of a profile -/
def rnE (s p : List Int) : Nat → Int
  | 0 => 0
  | k + 1 => if rnE s p k = 0 then (if badI s p k then 2 else 0) else rnE s p k
theorem rnE_up {s p : List Int} {i : Nat} (h : rnE s p i = 2) : ∀ {j : Nat}, i ≤ j → rnE s p j = 2
  | 0, hj => by rw [Nat.le_zero.1 hj] at h; exact h
  | j + 1, hj => by
    rcases Nat.lt_or_ge j i with h1 | h1
    · rw [show j + 1 = i by omega]; exact h
    · show (if rnE s p j = 0 then _ else rnE s p j) = 2
      rw [rnE_up h h1, if_neg (by decide)]
theorem rnE_bad {s p : List Int} {i n : Nat} (h0 : rnE s p i = 0) (hb : badI s p i) (hi : i < n) : rnE s p n = 2 := by
  refine rnE_up (i := i + 1) ?_ hi
  show (if rnE s p i = 0 then (if badI s p i then (2 : Int) else 0) else rnE s p i) = 2
  rw [if_pos h0, if_pos hb]
theorem rnE_good {s p : List Int} {i : Nat} (h0 : rnE s p i = 0) (hb : ¬ badI s p i) : rnE s p (i + 1) = 0 := by
  show (if rnE s p i = 0 then (if badI s p i then (2 : Int) else 0) else rnE s p i) = 0
  rw [if_pos h0, if_neg hb]
theorem rnE_all {s p : List Int} : ∀ {n : Nat}, rnE s p n = 0 → ∀ i, i < n → 0 ≤ p.getD i 0 ∧ p.getD i 0 < s.getD i 0
  | 0, _, i, hi => absurd hi (Nat.not_lt_zero i)
  | n + 1, h, i, hi => by
    have h1 : (if rnE s p n = 0 then (if badI s p n then (2 : Int) else 0) else rnE s p n) = 0 := h
    by_cases h0 : rnE s p n = 0
    · rw [if_pos h0] at h1
      by_cases hb : badI s p n
      · rw [if_pos hb] at h1; cases h1
      · rcases Nat.lt_or_ge i n with h2 | h2
        · exact rnE_all h0 i h2
        · obtain rfl : i = n := by omega
          unfold badI at hb
          omega
    · rw [if_neg h0] at h1; exact absurd h1 h0
def idE (s p : List Int) : Int := if szT s ≠ 0 then szT s else if p.length ≠ s.length then 10 else rnE s p s.length
def pfE (s : List Int) (x : Int) : Int := if szT s ≠ 0 then szT s else if x < 0 ∨ szP 1 s ≤ x then 2 else 0
theorem szT_0 {s : List Int} (h : szT s = 0) : szE 1 s = 0 ∧ 1 ≤ s.length ∧ s.length ≤ 4 := by
  unfold szT at h
  split at h
  · cases h
  · exact ⟨h, by omega, by omega⟩
def IxI (S : St) (v u : AV) (s p : List Int) (k : Nat) (A : Act') (X : St) : Prop := A.inr = false ∧ Same S X ∧ tmpV 0 A.F = v ∧ tmpV 1 A.F = u ∧ tmpV 19 A.F = u ∧ tmpV 20 A.F = .int .i64 ((s.length : Nat) : Int) ∧ ∃ i, i + k = s.length ∧ tmpV 21 A.F = .int .i64 ((i : Nat) : Int) ∧ rnE s p i = 0
def XiI (S : St) (v u : AV) (s p : List Int) (k : Nat) (A : Act') (X : St) : Prop := A.inr = false ∧ Same S X ∧ tmpV 0 A.F = v ∧ tmpV 1 A.F = u ∧ ∃ i, i + k = s.length ∧ tmpV 8 A.F = .int .i64 ((i : Nat) : Int) ∧ rnE s p i = 0
set_option maxHeartbeats 4000000 in
theorem index_spec {S : St} {v u : AV} {s p : List Int} (H : Has fns) (h : IsSl .i64 S v s) (h2 : IsSl .i64 S u p) : wpf fns (.fn 5 [] []) [v, u] S fun r S' => r = .tup [.int .i64 (if idE s p = 0 then idxN s p s.length else 0), .int .i64 (idE s p)] ∧ Same S S' := by
  refine wpf_fn H.f5 (by simp) ?_
  simp only [↓stU, stD, reduceEqDiff, ↓reduceIte, reduceAdd]
  refine wsr ?_
  simp only [↓stU, stD, reduceEqDiff, ↓reduceIte, reduceAdd]
  refine wss ?_
  simp only [↓stU, stD, reduceEqDiff, ↓reduceIte, reduceAdd]
  refine wpo_call ?_
  simp only [↓stU, stD, reduceEqDiff, ↓reduceIte, reduceAdd]
  refine wpf_mono (checkSizes_spec H h) ?_
  rintro _ Y ⟨rfl, y⟩
  try simp only [↓stU, stD, reduceEqDiff, ↓reduceIte, reduceAdd]
  refine wsr ?_
  by_cases e0 : szT s ≠ 0
  · have eI : idE s p = szT s := if_pos e0
    rw [eI, if_neg e0]
    simp only [↓stU, stD, reduceEqDiff, ↓reduceIte, reduceAdd, decide_eq_true e0]
    refine wpc_yes (by simp only [↓stU, stD, reduceEqDiff, ↓reduceIte]) (wpc_seq (wpc_reg ?_))
    simp only [↓stU, stD, reduceEqDiff, ↓reduceIte, reduceAdd]
    refine wpc_ret ?_
    simp only [↓stU, stD, reduceEqDiff, ↓reduceIte, reduceAdd]
    exact y
  have e0' : szT s = 0 := Classical.not_not.1 e0
  obtain ⟨z1, z2, z3⟩ := szT_0 e0'
  simp only [↓stU, stD, reduceEqDiff, ↓reduceIte, reduceAdd, decide_eq_false e0]
  refine wpc_non (by simp only [↓stU, stD, reduceEqDiff, ↓reduceIte]) (wpc_skip ?_)
  try simp only [↓stU, stD, reduceEqDiff, ↓reduceIte, reduceAdd]
  have hY := h.same y
  have hY2 := h2.same y
  have lY := hY.len
  have lY2 := hY2.len
  simp only [Int.ofNat_eq_natCast] at lY lY2
  refine wss ?_
  by_cases e1 : ((p.length : Nat) : Int) ≠ ((s.length : Nat) : Int)
  · have eI : idE s p = 10 := by unfold idE; rw [if_neg e0, if_pos (by omega)]
    rw [eI, if_neg (by decide)]
    simp only [↓stU, stD, reduceEqDiff, ↓reduceIte, reduceAdd, lY, lY2, decide_eq_true e1]
    refine wpc_yes (by simp only [↓stU, stD, reduceEqDiff, ↓reduceIte]) (wpc_seq (wpc_reg ?_))
    simp only [↓stU, stD, reduceEqDiff, ↓reduceIte, reduceAdd]
    refine wpc_ret ?_
    simp only [↓stU, stD, reduceEqDiff, ↓reduceIte, reduceAdd]
    exact y
  have hl : p.length = s.length := by omega
  have eI : idE s p = rnE s p s.length := by unfold idE; rw [if_neg e0, if_neg (by omega)]
  rw [eI]
  simp only [↓stU, stD, reduceEqDiff, ↓reduceIte, reduceAdd, lY, lY2, decide_eq_false e1]
  refine wpc_non (by simp only [↓stU, stD, reduceEqDiff, ↓reduceIte]) (wpc_skip ?_)
  try simp only [↓stU, stD, reduceEqDiff, ↓reduceIte, reduceAdd]
  refine wpc_seq (wpc_mono (Q := fun o A' X => (o = .normal ∧ IxI Y v u s p 0 A' X) ∨ (o = .ret ∧ rnE s p s.length = 2 ∧ tmpV 4 A'.F = .int .i64 0 ∧ tmpV 5 A'.F = .int .i64 2 ∧ Same Y X)) (wpc_seq (wpc_reg ?_)) ?_)
  · simp only [↓stU, stD, reduceEqDiff, ↓reduceIte, reduceAdd, lY2]
    refine wpc_block (wpc_loop (IxI Y v u s p) ?_ s.length _ _ ⟨rfl, Same.refl _, by simp only [↓stU, stD, reduceEqDiff, ↓reduceIte, reduceAdd], by simp only [↓stU, stD, reduceEqDiff, ↓reduceIte, reduceAdd], by simp only [↓stU, stD, reduceEqDiff, ↓reduceIte, reduceAdd], by simp only [↓stU, stD, reduceEqDiff, ↓reduceIte, reduceAdd]; rw [hl], 0, by omega, by simp only [↓stU, stD, reduceEqDiff, ↓reduceIte, reduceAdd]; try rfl, rfl⟩)
    rintro k ⟨F1, inr⟩ X ⟨q0, hX, p0, p1, p19, p20, i, hik, p21, hr⟩
    simp only at q0 p0 p1 p19 p20 p21
    subst q0
    refine wsr ?_
    simp only [↓stU, stD, reduceEqDiff, ↓reduceIte, reduceAdd, p20, p21, dlt]
    by_cases hlt : i < s.length
    rotate_left
    · refine wpc_seq (wpc_non (by simp only [↓stU, stD, reduceEqDiff, ↓reduceIte, decide_eq_false hlt]) (wpc_exit ?_))
      obtain rfl : k = 0 := by omega
      exact .inl ⟨rfl, rfl, hX, by simp only [↓stU, stD, reduceEqDiff, ↓reduceIte, p0], by simp only [↓stU, stD, reduceEqDiff, ↓reduceIte, p1], by simp only [↓stU, stD, reduceEqDiff, ↓reduceIte, p19], by simp only [↓stU, stD, reduceEqDiff, ↓reduceIte, p20], i, hik, by simp only [↓stU, stD, reduceEqDiff, ↓reduceIte, p21], hr⟩
    refine wpc_seq (wpc_yes (by simp only [↓stU, stD, reduceEqDiff, ↓reduceIte, decide_eq_true hlt]) (wpc_skip ?_))
    try simp only [↓stU, stD, reduceEqDiff, ↓reduceIte]
    have hX1 := hY.same hX
    have hX2 := hY2.same hX
    have ia := hX1.iaddr hlt
    have la := hX1.ld hlt
    have ib := hX2.iaddr (show i < p.length by omega)
    have lb := hX2.ld (show i < p.length by omega)
    have hbd : badI s p i = (p.getD i 0 < 0 ∨ s.getD i 0 ≤ p.getD i 0) := rfl
    have hrb := fun hb => rnE_bad (n := s.length) hr hb hlt
    have hrg := fun hb => rnE_good hr hb
    refine wpc_seq (wpc_block (wpc_seq (wpc_reg ?_)))
    simp only [↓stU, stD, reduceEqDiff, ↓reduceIte, reduceAdd, p19, p21, natOf_cast, ib, lb]
    refine wsr ?_
    by_cases b1 : p.getD i 0 < 0
    · simp only [↓stU, stD, reduceEqDiff, ↓reduceIte, reduceAdd, p0, natOf_cast, ia, la, decide_eq_true b1]
      refine wpc_yes (by simp only [↓stU, stD, reduceEqDiff, ↓reduceIte]; try rfl) (wpc_seq (wpc_reg ?_))
      simp only [↓stU, stD, reduceEqDiff, ↓reduceIte, reduceAdd]
      refine wpc_ret ?_
      simp only [↓stU, stD, reduceEqDiff, ↓reduceIte, reduceAdd]
      exact .inr ⟨hrb (.inl b1), hX⟩
    by_cases b2 : p.getD i 0 ≥ s.getD i 0
    · simp only [↓stU, stD, reduceEqDiff, ↓reduceIte, reduceAdd, p0, natOf_cast, ia, la, decide_eq_false b1, decide_eq_true b2]
      refine wpc_yes (by simp only [↓stU, stD, reduceEqDiff, ↓reduceIte]; try rfl) (wpc_seq (wpc_reg ?_))
      simp only [↓stU, stD, reduceEqDiff, ↓reduceIte, reduceAdd]
      refine wpc_ret ?_
      simp only [↓stU, stD, reduceEqDiff, ↓reduceIte, reduceAdd]
      exact .inr ⟨hrb (.inr b2), hX⟩
    simp only [↓stU, stD, reduceEqDiff, ↓reduceIte, reduceAdd, p0, natOf_cast, ia, la, decide_eq_false b1, decide_eq_false b2]
    refine wpc_non (by simp only [↓stU, stD, reduceEqDiff, ↓reduceIte]; try rfl) (wpc_skip ?_)
    try simp only [↓stU, stD, reduceEqDiff, ↓reduceIte, reduceAdd]
    refine wpc_reg ?_
    simp only [↓stU, stD, reduceEqDiff, ↓reduceIte, reduceAdd, p21, wadd1 (a := i) (by omega)]
    exact ⟨k - 1, by omega, rfl, hX, by simp only [↓stU, stD, reduceEqDiff, ↓reduceIte, p0], by simp only [↓stU, stD, reduceEqDiff, ↓reduceIte, p1], by simp only [↓stU, stD, reduceEqDiff, ↓reduceIte, p19], by simp only [↓stU, stD, reduceEqDiff, ↓reduceIte, p20], i + 1, by omega, by simp only [↓stU, stD, reduceEqDiff, ↓reduceIte, reduceAdd], hrg (by rw [hbd]; omega)⟩
  rintro o ⟨F1, inr⟩ X (⟨rfl, q0, hX, p0, p1, _, _, i, hik, _, hr⟩ | ⟨rfl, hr, p4, p5, hX⟩)
  rotate_left
  · simp only at p4 p5
    rw [hr, if_neg (by decide)]
    simp only [↓stU, stD, reduceEqDiff, ↓reduceIte, p4, p5]
    exact y.trans hX
  simp only at q0 p0 p1
  subst q0
  obtain rfl : i = s.length := by omega
  rw [hr, if_pos rfl]
  try simp only [↓stU, stD, reduceEqDiff, ↓reduceIte, reduceAdd]
  refine wsr ?_
  simp only [↓stU, stD, reduceEqDiff, ↓reduceIte, reduceAdd, p0, p1]
  refine wpo_call ?_
  simp only [↓stU, stD, reduceEqDiff, ↓reduceIte, reduceAdd]
  refine wpf_mono (number_spec H (hY.same hX) (hY2.same hX) z1 hl (by omega) (rnE_all hr)) ?_
  rintro _ Z ⟨rfl, z⟩
  try simp only [↓stU, stD, reduceEqDiff, ↓reduceIte, reduceAdd]
  refine wpc_ret ?_
  simp only [↓stU, stD, reduceEqDiff, ↓reduceIte, reduceAdd]
  exact (y.trans hX).trans z
set_option maxHeartbeats 4000000 in
theorem xindex_spec {S : St} {v u : AV} {s p : List Int} (H : Has fns) (h : IsSl .i64 S v s) (h2 : IsSl .i64 S u p) : wpf fns (.fn 6 [] []) [v, u] S fun r S' => r = .tup [.int .i64 (if idE s p = 0 then idxN s p s.length else 0), .int .i64 (idE s p)] ∧ Same S S' := by
  refine wpf_fn H.f6 (by simp) ?_
  simp only [↓stU, stD, reduceEqDiff, ↓reduceIte, reduceAdd]
  refine wsr ?_
  simp only [↓stU, stD, reduceEqDiff, ↓reduceIte, reduceAdd]
  refine wss ?_
  simp only [↓stU, stD, reduceEqDiff, ↓reduceIte, reduceAdd]
  refine wpo_call ?_
  simp only [↓stU, stD, reduceEqDiff, ↓reduceIte, reduceAdd]
  refine wpf_mono (xproduct_spec H h) ?_
  rintro _ Y ⟨rfl, y⟩
  simp only [↓stU, stD, reduceEqDiff, ↓reduceIte, reduceAdd, ex0, ex1]
  refine wsr ?_
  by_cases e0 : szT s ≠ 0
  · have eI : idE s p = szT s := if_pos e0
    rw [eI, if_neg e0, if_neg e0]
    simp only [↓stU, stD, reduceEqDiff, ↓reduceIte, reduceAdd, decide_eq_true e0]
    refine wpc_yes (by simp only [↓stU, stD, reduceEqDiff, ↓reduceIte]) (wpc_seq (wpc_reg ?_))
    simp only [↓stU, stD, reduceEqDiff, ↓reduceIte, reduceAdd]
    refine wpc_ret ?_
    simp only [↓stU, stD, reduceEqDiff, ↓reduceIte, reduceAdd]
    exact y
  have e0' : szT s = 0 := Classical.not_not.1 e0
  obtain ⟨z1, z2, z3⟩ := szT_0 e0'
  simp only [↓stU, stD, reduceEqDiff, ↓reduceIte, reduceAdd, decide_eq_false e0]
  refine wpc_non (by simp only [↓stU, stD, reduceEqDiff, ↓reduceIte]) (wpc_skip ?_)
  try simp only [↓stU, stD, reduceEqDiff, ↓reduceIte, reduceAdd]
  have hY := h.same y
  have hY2 := h2.same y
  have lY := hY.len
  have lY2 := hY2.len
  simp only [Int.ofNat_eq_natCast] at lY lY2
  refine wss ?_
  by_cases e1 : ((p.length : Nat) : Int) ≠ ((s.length : Nat) : Int)
  · have eI : idE s p = 10 := by unfold idE; rw [if_neg e0, if_pos (by omega)]
    rw [eI, if_neg (show ¬ (10 : Int) = 0 by decide)]
    simp only [↓stU, stD, reduceEqDiff, ↓reduceIte, reduceAdd, lY, lY2, decide_eq_true e1]
    refine wpc_yes (by simp only [↓stU, stD, reduceEqDiff, ↓reduceIte]) (wpc_seq (wpc_reg ?_))
    simp only [↓stU, stD, reduceEqDiff, ↓reduceIte, reduceAdd]
    refine wpc_ret ?_
    simp only [↓stU, stD, reduceEqDiff, ↓reduceIte, reduceAdd]
    exact y
  have hl : p.length = s.length := by omega
  have eI : idE s p = rnE s p s.length := by unfold idE; rw [if_neg e0, if_neg (by omega)]
  rw [eI]
  simp only [↓stU, stD, reduceEqDiff, ↓reduceIte, reduceAdd, lY, lY2, decide_eq_false e1]
  refine wpc_non (by simp only [↓stU, stD, reduceEqDiff, ↓reduceIte]) (wpc_skip ?_)
  try simp only [↓stU, stD, reduceEqDiff, ↓reduceIte, reduceAdd]
  refine wpc_seq (wpc_mono (Q := fun o A' X => (o = .normal ∧ XiI Y v u s p 0 A' X) ∨ (o = .ret ∧ rnE s p s.length = 2 ∧ tmpV 4 A'.F = .int .i64 0 ∧ tmpV 5 A'.F = .int .i64 2 ∧ Same Y X)) (wpc_seq (wpc_reg ?_)) ?_)
  · simp only [↓stU, stD, reduceEqDiff, ↓reduceIte, reduceAdd]
    refine wpc_block (wpc_loop (XiI Y v u s p) ?_ s.length _ _ ⟨rfl, Same.refl _, by simp only [↓stU, stD, reduceEqDiff, ↓reduceIte, reduceAdd], by simp only [↓stU, stD, reduceEqDiff, ↓reduceIte, reduceAdd], 0, by omega, by simp only [↓stU, stD, reduceEqDiff, ↓reduceIte, reduceAdd]; try rfl, rfl⟩)
    rintro k ⟨F1, inr⟩ X ⟨q0, hX, p0, p1, i, hik, p8, hr⟩
    simp only at q0 p0 p1 p8
    subst q0
    have hX1 := hY.same hX
    have hX2 := hY2.same hX
    have lX := hX1.len
    simp only [Int.ofNat_eq_natCast] at lX
    refine wss ?_
    simp only [↓stU, stD, reduceEqDiff, ↓reduceIte, reduceAdd, p0, p8, lX, dlt]
    by_cases hlt : i < s.length
    rotate_left
    · refine wpc_non (by simp only [↓stU, stD, reduceEqDiff, ↓reduceIte, decide_eq_false hlt]) (wpc_exit ?_)
      obtain rfl : k = 0 := by omega
      exact .inl ⟨rfl, rfl, hX, by simp only [↓stU, stD, reduceEqDiff, ↓reduceIte, p0], by simp only [↓stU, stD, reduceEqDiff, ↓reduceIte, p1], i, hik, by simp only [↓stU, stD, reduceEqDiff, ↓reduceIte, p8], hr⟩
    refine wpc_yes (by simp only [↓stU, stD, reduceEqDiff, ↓reduceIte, decide_eq_true hlt]) (wpc_skip ?_)
    try simp only [↓stU, stD, reduceEqDiff, ↓reduceIte]
    have ia := hX1.iaddr hlt
    have la := hX1.ld hlt
    have ib := hX2.iaddr (show i < p.length by omega)
    have lb := hX2.ld (show i < p.length by omega)
    have hbd : badI s p i = (p.getD i 0 < 0 ∨ s.getD i 0 ≤ p.getD i 0) := rfl
    have hrb := fun hb => rnE_bad (n := s.length) hr hb hlt
    have hrg := fun hb => rnE_good hr hb
    refine wpc_seq (wpc_block (wpc_seq (wpc_drq ?_)))
    by_cases b1 : p.getD i 0 < 0
    · simp only [↓sU, sD, reduceEqDiff, ↓reduceIte, reduceAdd, IsSl.self hX1, IsSl.self hX2, p0, p1, p8, natOf_cast, ia, la, ib, lb, decide_eq_true b1, evQ_pick, isLoad_pick, qPick_bool, bsel_true, bsel_false]
      refine wpc_yes (by simp only [↓sU, sD, reduceEqDiff, ↓reduceIte, reduceAdd]; try rfl) (wpc_seq (wpc_reg ?_))
      simp only [↓sU, sD, reduceEqDiff, ↓reduceIte, reduceAdd]
      refine wpc_ret ?_
      simp only [↓sU, sD, reduceEqDiff, ↓reduceIte, reduceAdd]
      exact .inr ⟨hrb (.inl b1), hX.trans (Same.nx X _)⟩
    by_cases b2 : p.getD i 0 ≥ s.getD i 0
    · simp only [↓sU, sD, reduceEqDiff, ↓reduceIte, reduceAdd, IsSl.self hX1, IsSl.self hX2, p0, p1, p8, natOf_cast, ia, la, ib, lb, decide_eq_false b1, decide_eq_true b2, evQ_pick, isLoad_pick, qPick_bool, bsel_true, bsel_false]
      refine wpc_yes (by simp only [↓sU, sD, reduceEqDiff, ↓reduceIte, reduceAdd]; try rfl) (wpc_seq (wpc_reg ?_))
      simp only [↓sU, sD, reduceEqDiff, ↓reduceIte, reduceAdd]
      refine wpc_ret ?_
      simp only [↓sU, sD, reduceEqDiff, ↓reduceIte, reduceAdd]
      exact .inr ⟨hrb (.inr b2), hX.trans (Same.nx X _)⟩
    simp only [↓sU, sD, reduceEqDiff, ↓reduceIte, reduceAdd, IsSl.self hX1, IsSl.self hX2, p0, p1, p8, natOf_cast, ia, la, ib, lb, decide_eq_false b1, decide_eq_false b2, evQ_pick, isLoad_pick, qPick_bool, bsel_true, bsel_false]
    refine wpc_non (by simp only [↓sU, sD, reduceEqDiff, ↓reduceIte, reduceAdd]; try rfl) (wpc_skip ?_)
    try simp only [↓sU, sD, reduceEqDiff, ↓reduceIte, reduceAdd]
    refine wpc_reg ?_
    simp only [↓sU, sD, reduceEqDiff, ↓reduceIte, reduceAdd, p8, wadd1 (a := i) (by omega)]
    exact ⟨k - 1, by omega, rfl, hX.trans (Same.nx X _), by simp only [↓sU, sD, reduceEqDiff, ↓reduceIte, reduceAdd, p0], by simp only [↓sU, sD, reduceEqDiff, ↓reduceIte, reduceAdd, p1], i + 1, by omega, by simp only [↓sU, sD, reduceEqDiff, ↓reduceIte, reduceAdd], hrg (by rw [hbd]; omega)⟩
  rintro o ⟨F1, inr⟩ X (⟨rfl, q0, hX, p0, p1, i, hik, _, hr⟩ | ⟨rfl, hr, p4, p5, hX⟩)
  rotate_left
  · simp only at p4 p5
    rw [hr, if_neg (by decide)]
    simp only [↓stU, stD, reduceEqDiff, ↓reduceIte, p4, p5]
    exact y.trans hX
  simp only at q0 p0 p1
  subst q0
  obtain rfl : i = s.length := by omega
  rw [hr, if_pos rfl]
  try simp only [↓stU, stD, reduceEqDiff, ↓reduceIte, reduceAdd]
  refine wsr ?_
  simp only [↓stU, stD, reduceEqDiff, ↓reduceIte, reduceAdd, p0, p1]
  refine wpo_call ?_
  simp only [↓stU, stD, reduceEqDiff, ↓reduceIte, reduceAdd]
  refine wpf_mono (at_spec H (hY.same hX) (hY2.same hX) z1 hl (by omega) (rnE_all hr)) ?_
  rintro _ Z ⟨rfl, z⟩
  try simp only [↓stU, stD, reduceEqDiff, ↓reduceIte, reduceAdd]
  refine wpc_ret ?_
  simp only [↓stU, stD, reduceEqDiff, ↓reduceIte, reduceAdd]
  exact (y.trans hX).trans z
end Go.Ev.Gl

namespace Go.Ev.Gl
variable {fns : T AFn}

/-! ## Profile -/
def PfR (s : List Int) (x : Int) (S : St) (r : AV) (S' : St) : Prop := ∃ v, r = .tup [v, .int .i64 (pfE s x)] ∧ Same S S' ∧ IsSl .i64 S' v (if pfE s x = 0 then dgL s x else [])
set_option maxHeartbeats 4000000 in
theorem profile_spec {S : St} {v : AV} {s : List Int} {x : Int} (H : Has fns) (h : IsSl .i64 S v s) : wpf fns (.fn 7 [] []) [v, .int .i64 x] S (PfR s x S) := by
  refine wpf_fn H.f7 (by simp) ?_
  simp only [↓stU, stD, reduceEqDiff, ↓reduceIte, reduceAdd]
  refine wsr ?_
  simp only [↓stU, stD, reduceEqDiff, ↓reduceIte, reduceAdd]
  refine wss ?_
  simp only [↓stU, stD, reduceEqDiff, ↓reduceIte, reduceAdd]
  refine wpo_call ?_
  simp only [↓stU, stD, reduceEqDiff, ↓reduceIte, reduceAdd]
  refine wpf_mono (checkSizes_spec H h) ?_
  rintro _ Y ⟨rfl, y⟩
  try simp only [↓stU, stD, reduceEqDiff, ↓reduceIte, reduceAdd]
  refine wsr ?_
  by_cases e0 : szT s ≠ 0
  · have eI : pfE s x = szT s := if_pos e0
    simp only [↓stU, stD, reduceEqDiff, ↓reduceIte, reduceAdd, decide_eq_true e0]
    refine wpc_yes (by simp only [↓stU, stD, reduceEqDiff, ↓reduceIte]) (wpc_seq (wpc_reg ?_))
    simp only [↓stU, stD, reduceEqDiff, ↓reduceIte, reduceAdd]
    refine wpc_ret ?_
    simp only [↓stU, stD, reduceEqDiff, ↓reduceIte, reduceAdd]
    exact ⟨_, by rw [eI], y, by rw [eI, if_neg e0]; exact .inl ⟨rfl, .inl rfl⟩⟩
  have e0' : szT s = 0 := Classical.not_not.1 e0
  obtain ⟨z1, z2, z3⟩ := szT_0 e0'
  obtain ⟨a1, a2, a3⟩ := szE_ok (by decide) (by decide) z1
  have hpc : prC s = szP 1 s := prC_ok (by decide) (by decide) z1
  have eP : (if szT s = 0 then szP 1 s else 0) = szP 1 s := if_pos e0'
  simp only [↓stU, stD, reduceEqDiff, ↓reduceIte, reduceAdd, decide_eq_false e0]
  refine wpc_non (by simp only [↓stU, stD, reduceEqDiff, ↓reduceIte]) (wpc_skip ?_)
  try simp only [↓stU, stD, reduceEqDiff, ↓reduceIte, reduceAdd]
  have hY := h.same y
  refine wss ?_
  by_cases b1 : x < 0
  · have eI : pfE s x = 2 := by unfold pfE; rw [if_neg e0, if_pos (.inl b1)]
    simp only [↓stU, stD, reduceEqDiff, ↓reduceIte, reduceAdd, decide_eq_true b1]
    refine wpc_yes (by simp only [↓stU, stD, reduceEqDiff, ↓reduceIte]; try rfl) (wpc_seq (wpc_reg ?_))
    simp only [↓stU, stD, reduceEqDiff, ↓reduceIte, reduceAdd]
    refine wpc_ret ?_
    simp only [↓stU, stD, reduceEqDiff, ↓reduceIte, reduceAdd]
    exact ⟨_, by rw [eI], y, by rw [eI, if_neg (by decide)]; exact .inl ⟨rfl, .inl rfl⟩⟩
  simp only [↓stU, stD, reduceEqDiff, ↓reduceIte, reduceAdd, decide_eq_false b1]
  refine wpo_call ?_
  simp only [↓stU, stD, reduceEqDiff, ↓reduceIte, reduceAdd]
  refine wpf_mono (product_spec H hY (fun q hq => (a1 q hq).1) (by omega)) ?_
  rintro _ Z ⟨rfl, z⟩
  rw [hpc]
  have yz := y.trans z
  by_cases b2 : x ≥ szP 1 s
  · have eI : pfE s x = 2 := by unfold pfE; rw [if_neg e0, if_pos (.inr b2)]
    simp only [↓stU, stD, reduceEqDiff, ↓reduceIte, reduceAdd, decide_eq_false b1, decide_eq_true b2]
    refine wpc_yes (by simp only [↓stU, stD, reduceEqDiff, ↓reduceIte]; try rfl) (wpc_seq (wpc_reg ?_))
    simp only [↓stU, stD, reduceEqDiff, ↓reduceIte, reduceAdd]
    refine wpc_ret ?_
    simp only [↓stU, stD, reduceEqDiff, ↓reduceIte, reduceAdd]
    exact ⟨_, by rw [eI], yz, by rw [eI, if_neg (by decide)]; exact .inl ⟨rfl, .inl rfl⟩⟩
  have eI : pfE s x = 0 := by unfold pfE; rw [if_neg e0, if_neg (by omega)]
  simp only [↓stU, stD, reduceEqDiff, ↓reduceIte, reduceAdd, decide_eq_false b1, decide_eq_false b2]
  refine wpc_non (by simp only [↓stU, stD, reduceEqDiff, ↓reduceIte]; try rfl) (wpc_skip ?_)
  try simp only [↓stU, stD, reduceEqDiff, ↓reduceIte, reduceAdd]
  refine wsr ?_
  simp only [↓stU, stD, reduceEqDiff, ↓reduceIte, reduceAdd]
  refine wpo_call ?_
  simp only [↓stU, stD, reduceEqDiff, ↓reduceIte, reduceAdd]
  refine wpf_mono (digits_spec H (h.same yz) a1 (by omega) (show 0 ≤ x ∧ x ≤ 1000 by omega)) ?_
  rintro r W ⟨hr, w⟩
  try simp only [↓stU, stD, reduceEqDiff, ↓reduceIte, reduceAdd]
  refine wpc_ret ?_
  simp only [↓stU, stD, reduceEqDiff, ↓reduceIte, reduceAdd]
  exact ⟨_, by rw [eI], yz.trans w, by rw [eI, if_pos rfl]; exact hr⟩
set_option maxHeartbeats 4000000 in
theorem xprofile_spec {S : St} {v : AV} {s : List Int} {x : Int} (H : Has fns) (h : IsSl .i64 S v s) : wpf fns (.fn 8 [] []) [v, .int .i64 x] S (PfR s x S) := by
  refine wpf_fn H.f8 (by simp) ?_
  simp only [↓stU, stD, reduceEqDiff, ↓reduceIte, reduceAdd]
  refine wsr ?_
  simp only [↓stU, stD, reduceEqDiff, ↓reduceIte, reduceAdd]
  refine wsr ?_
  simp only [↓stU, stD, reduceEqDiff, ↓reduceIte, reduceAdd]
  refine wpo_call ?_
  simp only [↓stU, stD, reduceEqDiff, ↓reduceIte, reduceAdd]
  refine wpf_mono (xproduct_spec H h) ?_
  rintro _ Y ⟨rfl, y⟩
  simp only [↓stU, stD, reduceEqDiff, ↓reduceIte, reduceAdd, ex0, ex1]
  refine wss ?_
  by_cases e0 : szT s ≠ 0
  · have eI : pfE s x = szT s := if_pos e0
    simp only [↓stU, stD, reduceEqDiff, ↓reduceIte, reduceAdd, decide_eq_true e0]
    refine wpc_yes (by simp only [↓stU, stD, reduceEqDiff, ↓reduceIte]) (wpc_seq (wpc_reg ?_))
    simp only [↓stU, stD, reduceEqDiff, ↓reduceIte, reduceAdd]
    refine wpc_ret ?_
    simp only [↓stU, stD, reduceEqDiff, ↓reduceIte, reduceAdd]
    exact ⟨_, by rw [eI], y, by rw [eI, if_neg e0]; exact .inl ⟨rfl, .inl rfl⟩⟩
  have e0' : szT s = 0 := Classical.not_not.1 e0
  obtain ⟨z1, z2, z3⟩ := szT_0 e0'
  obtain ⟨a1, a2, a3⟩ := szE_ok (by decide) (by decide) z1
  have hpc : prC s = szP 1 s := prC_ok (by decide) (by decide) z1
  have eP : (if szT s = 0 then szP 1 s else 0) = szP 1 s := if_pos e0'
  simp only [↓stU, stD, reduceEqDiff, ↓reduceIte, reduceAdd, decide_eq_false e0]
  refine wpc_non (by simp only [↓stU, stD, reduceEqDiff, ↓reduceIte]) (wpc_skip ?_)
  try simp only [↓stU, stD, reduceEqDiff, ↓reduceIte, reduceAdd]
  have hY := h.same y
  refine wss ?_
  by_cases b1 : x < 0
  · have eI : pfE s x = 2 := by unfold pfE; rw [if_neg e0, if_pos (.inl b1)]
    simp only [↓stU, stD, reduceEqDiff, ↓reduceIte, reduceAdd, decide_eq_true b1]
    refine wpc_yes (by simp only [↓stU, stD, reduceEqDiff, ↓reduceIte]; try rfl) (wpc_seq (wpc_reg ?_))
    simp only [↓stU, stD, reduceEqDiff, ↓reduceIte, reduceAdd]
    refine wpc_ret ?_
    simp only [↓stU, stD, reduceEqDiff, ↓reduceIte, reduceAdd]
    exact ⟨_, by rw [eI], y, by rw [eI, if_neg (by decide)]; exact .inl ⟨rfl, .inl rfl⟩⟩
  have yz := y
  by_cases b2 : x ≥ szP 1 s
  · have eI : pfE s x = 2 := by unfold pfE; rw [if_neg e0, if_pos (.inr b2)]
    simp only [↓stU, stD, reduceEqDiff, ↓reduceIte, reduceAdd, decide_eq_false b1, decide_eq_true b2, eP]
    refine wpc_yes (by simp only [↓stU, stD, reduceEqDiff, ↓reduceIte]; try rfl) (wpc_seq (wpc_reg ?_))
    simp only [↓stU, stD, reduceEqDiff, ↓reduceIte, reduceAdd]
    refine wpc_ret ?_
    simp only [↓stU, stD, reduceEqDiff, ↓reduceIte, reduceAdd]
    exact ⟨_, by rw [eI], yz, by rw [eI, if_neg (by decide)]; exact .inl ⟨rfl, .inl rfl⟩⟩
  have eI : pfE s x = 0 := by unfold pfE; rw [if_neg e0, if_neg (by omega)]
  simp only [↓stU, stD, reduceEqDiff, ↓reduceIte, reduceAdd, decide_eq_false b1, decide_eq_false b2, eP]
  refine wpc_non (by simp only [↓stU, stD, reduceEqDiff, ↓reduceIte]; try rfl) (wpc_skip ?_)
  try simp only [↓stU, stD, reduceEqDiff, ↓reduceIte, reduceAdd]
  refine wsr ?_
  simp only [↓stU, stD, reduceEqDiff, ↓reduceIte, reduceAdd]
  refine wpo_call ?_
  simp only [↓stU, stD, reduceEqDiff, ↓reduceIte, reduceAdd]
  refine wpf_mono (xdigits_spec H (h.same yz) a1 (by omega) (show 0 ≤ x ∧ x ≤ 1000 by omega)) ?_
  rintro r W ⟨hr, w⟩
  try simp only [↓stU, stD, reduceEqDiff, ↓reduceIte, reduceAdd]
  refine wpc_ret ?_
  simp only [↓stU, stD, reduceEqDiff, ↓reduceIte, reduceAdd]
  exact ⟨_, by rw [eI], yz.trans w, by rw [eI, if_pos rfl]; exact hr⟩
end Go.Ev.Gl
