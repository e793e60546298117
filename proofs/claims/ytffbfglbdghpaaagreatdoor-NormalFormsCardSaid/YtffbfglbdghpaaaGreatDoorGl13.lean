/- Contracts (13): rational numbers, the statements' tools, the law. -/
import Derived.Test.YtffbfglbdghpaaaGreatDoorGl12
open Nat (reduceEqDiff reduceAdd)
set_option maxHeartbeats 4000000
set_option linter.unusedSimpArgs false
set_option linter.unusedVariables false
namespace Go.Ev.Gl
variable {fns : T AFn}

/-! ## Check of normal forms -/
noncomputable def rawC (x : RawN) : Int := rchk x.neg x.num x.den
noncomputable def lsE : List RawN → Int
  | [] => 0
  | x :: l => if rawC x = 0 then lsE l else rawC x
noncomputable def psE (n : Int) : List (List RawN) → Int
  | [] => 0
  | r :: P => if ((r.length : Nat) : Int) ≠ n then 10 else if lsE r = 0 then psE n P else lsE r
noncomputable def ckE (s : List Int) (P : List (List RawN)) : Int := if szT s ≠ 0 then szT s else if ((P.length : Nat) : Int) ≠ ((s.length : Nat) : Int) then 10 else psE (szP 1 s) P
theorem lsE_step {L : List RawN} {i : Nat} {x : RawN} (hi : L[i]? = some x) : lsE (L.drop i) = if rawC x = 0 then lsE (L.drop (i + 1)) else rawC x := by
  obtain ⟨hlt, rfl⟩ := List.getElem?_eq_some_iff.1 hi
  rw [List.drop_eq_getElem_cons hlt]
  rfl
theorem psE_step {n : Int} {P : List (List RawN)} {i : Nat} {r : List RawN} (hi : P[i]? = some r) : psE n (P.drop i) = if ((r.length : Nat) : Int) ≠ n then 10 else if lsE r = 0 then psE n (P.drop (i + 1)) else lsE r := by
  obtain ⟨hlt, rfl⟩ := List.getElem?_eq_some_iff.1 hi
  rw [List.drop_eq_getElem_cons hlt]
  rfl
def LsI (S : St) (v : AV) (L : List RawN) (k : Nat) (A : Act') (X : St) : Prop := A.inr = false ∧ Same S X ∧ tmpV 0 A.F = v ∧ ∃ i, i + k = L.length ∧ tmpV 3 A.F = .int .i64 ((i : Nat) : Int) ∧ lsE L = lsE (L.drop i)
set_option maxHeartbeats 4000000 in
theorem xlist_spec {S : St} {v : AV} {L : List RawN} (H : Has fns) (h : IsSlG 3 RawE S v L) (hb : L.length ≤ 1000000) : wpf fns (.fn 26 [] []) [v] S fun r S' => r = .int .i64 (lsE L) ∧ Same S S' := by
  refine wpf_fn H.f26 (by simp) ?_
  simp only [↓stU, stD, reduceEqDiff, ↓reduceIte, reduceAdd]
  refine wsr ?_
  simp only [↓stU, stD, reduceEqDiff, ↓reduceIte, reduceAdd]
  refine wpc_seq (wpc_mono (Q := fun o A' X => (o = .normal ∧ LsI S v L 0 A' X) ∨ (o = .ret ∧ tmpV 2 A'.F = .int .i64 (lsE L) ∧ Same S X)) (wpc_seq (wpc_reg ?_)) ?_)
  · simp only [↓stU, stD, reduceEqDiff, ↓reduceIte, reduceAdd]
    refine wpc_block (wpc_loop (LsI S v L) ?_ L.length _ _ ⟨rfl, Same.refl _, by simp only [↓stU, stD, reduceEqDiff, ↓reduceIte, reduceAdd], 0, by omega, by simp only [↓stU, stD, reduceEqDiff, ↓reduceIte, reduceAdd]; try rfl, rfl⟩)
    rintro k ⟨F1, inr⟩ X ⟨q0, hX, p0, i, hik, p3, he⟩
    simp only at q0 p0 p3
    subst q0
    have hX1 := IsSlG.same (E := RawE) firm_raw h hX
    have lX := IsSlG.len hX1
    refine wss ?_
    simp only [↓stU, stD, reduceEqDiff, ↓reduceIte, reduceAdd, p0, p3, lX, dlt]
    by_cases hlt : i < L.length
    rotate_left
    · refine wpc_non (by simp only [↓stU, stD, reduceEqDiff, ↓reduceIte, decide_eq_false hlt]) (wpc_exit ?_)
      obtain rfl : k = 0 := by omega
      exact .inl ⟨rfl, rfl, hX, by simp only [↓stU, stD, reduceEqDiff, ↓reduceIte, p0], i, hik, by simp only [↓stU, stD, reduceEqDiff, ↓reduceIte, p3], he⟩
    refine wpc_yes (by simp only [↓stU, stD, reduceEqDiff, ↓reduceIte, decide_eq_true hlt]) (wpc_skip ?_)
    try simp only [↓stU, stD, reduceEqDiff, ↓reduceIte]
    have hget := List.getElem?_eq_getElem hlt
    have hs := lsE_step hget
    obtain ⟨_, b1, q1, ia, lb1, _, hE, ld1, _⟩ := IsSlG.at hX1 (by decide) hget
    obtain ⟨nv, dv, rfl, r1, r2⟩ := hE
    refine wpc_seq (wpc_block (wpc_seq (wpc_reg ?_)))
    simp only [↓stU, stD, reduceEqDiff, ↓reduceIte, reduceAdd, p0, p3, natOf_cast, ia, ld1]
    refine wpo_call ?_
    simp only [↓stU, stD, reduceEqDiff, ↓reduceIte, reduceAdd]
    refine wpf_mono (rxcheck_spec H ⟨nv, dv, rfl, r1, r2⟩) ?_
    rintro _ Y ⟨rfl, y⟩
    try simp only [↓stU, stD, reduceEqDiff, ↓reduceIte, reduceAdd]
    refine wsr ?_
    by_cases c0 : rawC L[i] ≠ 0
    · rw [if_neg c0] at hs
      have c0' : rchk L[i].neg L[i].num L[i].den ≠ 0 := c0
      simp only [↓stU, stD, reduceEqDiff, ↓reduceIte, reduceAdd, decide_eq_true c0']
      refine wpc_yes (by simp only [↓stU, stD, reduceEqDiff, ↓reduceIte]) (wpc_seq (wpc_reg ?_))
      simp only [↓stU, stD, reduceEqDiff, ↓reduceIte, reduceAdd]
      refine wpc_ret ?_
      simp only [↓stU, stD, reduceEqDiff, ↓reduceIte, reduceAdd]
      exact .inr ⟨by rw [he, hs]; rfl, hX.trans y⟩
    have c1 : rawC L[i] = 0 := Classical.not_not.1 c0
    rw [if_pos c1] at hs
    have c0' : ¬ rchk L[i].neg L[i].num L[i].den ≠ 0 := c0
    simp only [↓stU, stD, reduceEqDiff, ↓reduceIte, reduceAdd, decide_eq_false c0']
    refine wpc_non (by simp only [↓stU, stD, reduceEqDiff, ↓reduceIte]) (wpc_skip ?_)
    try simp only [↓stU, stD, reduceEqDiff, ↓reduceIte, reduceAdd]
    refine wpc_reg ?_
    simp only [↓stU, stD, reduceEqDiff, ↓reduceIte, reduceAdd, p3, wadd1 (a := i) (by omega)]
    exact ⟨k - 1, by omega, rfl, hX.trans y, by simp only [↓stU, stD, reduceEqDiff, ↓reduceIte, p0], i + 1, by omega, by simp only [↓stU, stD, reduceEqDiff, ↓reduceIte, reduceAdd], by rw [he, hs]⟩
  rintro o ⟨F1, inr⟩ X (⟨rfl, q0, hX, _, i, hik, _, he⟩ | ⟨rfl, p2, hX⟩)
  rotate_left
  · simp only at p2
    simp only [↓stU, stD, reduceEqDiff, ↓reduceIte, p2]
    exact hX
  simp only at q0
  subst q0
  obtain rfl : i = L.length := by omega
  rw [List.drop_length] at he
  try simp only [↓stU, stD, reduceEqDiff, ↓reduceIte, reduceAdd]
  refine wsr ?_
  simp only [↓stU, stD, reduceEqDiff, ↓reduceIte, reduceAdd]
  refine wpc_ret ?_
  simp only [↓stU, stD, reduceEqDiff, ↓reduceIte, reduceAdd]
  exact ⟨by rw [he]; rfl, hX⟩
end Go.Ev.Gl

namespace Go.Ev.Gl
variable {fns : T AFn}

/-! ## Check on both sides -/
def XcI (S : St) (gb : Nat) (n : Int) (P : List (List RawN)) (k : Nat) (A : Act') (X : St) : Prop := A.inr = false ∧ Same S X ∧ tmpV 1 A.F = .ptr gb 0 ∧ tmpV 3 A.F = .int .i64 n ∧ ∃ i, i + k = P.length ∧ tmpV 5 A.F = .int .i64 ((i : Nat) : Int) ∧ psE n P = psE n (P.drop i)
def PcI (S : St) (gb : Nat) (pv : AV) (n : Int) (P : List (List RawN)) (k : Nat) (A : Act') (X : St) : Prop := A.inr = false ∧ Same S X ∧ tmpV 1 A.F = .ptr gb 0 ∧ tmpV 23 A.F = pv ∧ tmpV 24 A.F = .int .i64 ((P.length : Nat) : Int) ∧ ∃ i, i + k = P.length ∧ tmpV 25 A.F = .int .i64 ((i : Nat) : Int) ∧ psE n P = psE n (P.drop i)
def PrI (S : St) (gb : Nat) (pv rv : AV) (N i : Nat) (L : List RawN) (k : Nat) (A : Act') (X : St) : Prop := A.inr = false ∧ Same S X ∧ tmpV 1 A.F = .ptr gb 0 ∧ tmpV 23 A.F = pv ∧ tmpV 24 A.F = .int .i64 ((N : Nat) : Int) ∧ tmpV 25 A.F = .int .i64 ((i : Nat) : Int) ∧ tmpV 35 A.F = rv ∧ tmpV 36 A.F = .int .i64 ((L.length : Nat) : Int) ∧ ∃ j, j + k = L.length ∧ tmpV 37 A.F = .int .i64 ((j : Nat) : Int) ∧ lsE L = lsE (L.drop j)
set_option maxHeartbeats 8000000 in
theorem xcheckN_spec {S : St} {sv pv : AV} {s : List Int} {P : List (List RawN)} (H : Has fns) (h : IsSl .i64 S sv s) (hP : IsSlG 1 RowE S pv P) (hr : ∀ r ∈ P, r.length ≤ 1000000) : wpf fns (.fn 10 [] []) [.agg [sv, pv]] S fun r S' => r = .int .i64 (ckE s P) ∧ Same S S' := by
  have hsc := IsSl.cells h
  have hpc : pv.cells = some [pv] := by rcases hP with ⟨_, rfl | rfl⟩ | ⟨b, off, cap, o, cs, rfl, _⟩ <;> rfl
  refine wpf_fn H.f10 (by simp) ?_
  simp only [↓stU, stD, reduceEqDiff, ↓reduceIte, reduceAdd]
  refine wsr ?_
  refine wpo_box (by simp only [↓stU, stD, reduceEqDiff, ↓reduceIte]; exact cells_agg _) ?_
  intro S1 s1 n1 g1
  simp only [↓stU, stD, reduceEqDiff, ↓reduceIte, reduceAdd]
  refine wsr ?_
  simp only [↓stU, stD, reduceEqDiff, ↓reduceIte, reduceAdd, evQ_faddr, faddr_ptr, ld2_0 g1]
  refine wpo_call ?_
  simp only [↓stU, stD, reduceEqDiff, ↓reduceIte, reduceAdd]
  refine wpf_mono (xproduct_spec H (h.same s1)) ?_
  rintro _ Y ⟨rfl, y⟩
  have gY := (y.2 _ (show S.nx < S1.nx by omega)).trans g1
  simp only [↓stU, stD, reduceEqDiff, ↓reduceIte, reduceAdd, ex0, ex1]
  refine wss ?_
  by_cases e0 : szT s ≠ 0
  · have eI : ckE s P = szT s := if_pos e0
    simp only [↓stU, stD, reduceEqDiff, ↓reduceIte, reduceAdd, decide_eq_true e0]
    refine wpc_yes (by simp only [↓stU, stD, reduceEqDiff, ↓reduceIte]) (wpc_seq (wpc_reg ?_))
    simp only [↓stU, stD, reduceEqDiff, ↓reduceIte, reduceAdd]
    refine wpc_ret ?_
    simp only [↓stU, stD, reduceEqDiff, ↓reduceIte, reduceAdd]
    exact ⟨by rw [eI], s1.trans y⟩
  have e0' : szT s = 0 := Classical.not_not.1 e0
  obtain ⟨z1, z2, z3⟩ := szT_0 e0'
  obtain ⟨a1, a2, a3⟩ := szE_ok (by decide) (by decide) z1
  have hpc2 : prC s = szP 1 s := prC_ok (by decide) (by decide) z1
  have eP : (if szT s = 0 then szP 1 s else 0) = szP 1 s := if_pos e0'
  simp only [↓stU, stD, reduceEqDiff, ↓reduceIte, reduceAdd, decide_eq_false e0]
  refine wpc_non (by simp only [↓stU, stD, reduceEqDiff, ↓reduceIte]) (wpc_skip ?_)
  try simp only [↓stU, stD, reduceEqDiff, ↓reduceIte, reduceAdd]
  have sY := s1.trans y
  have hY := h.same sY
  have hPY := IsSlG.same (E := RowE) firm_row hP sY
  have lY := hY.len
  have lP := IsSlG.len hPY
  simp only [Int.ofNat_eq_natCast] at lY
  refine wss ?_
  by_cases e1 : ((P.length : Nat) : Int) ≠ ((s.length : Nat) : Int)
  · have eI : ckE s P = 10 := by unfold ckE; rw [if_neg e0, if_pos e1]
    simp only [↓stU, stD, reduceEqDiff, ↓reduceIte, reduceAdd, evQ_faddr, faddr_ptr, ld2_0 gY, ld2_1 gY, lY, lP, decide_eq_true e1]
    refine wpc_yes (by simp only [↓stU, stD, reduceEqDiff, ↓reduceIte]) (wpc_seq (wpc_reg ?_))
    simp only [↓stU, stD, reduceEqDiff, ↓reduceIte, reduceAdd]
    refine wpc_ret ?_
    simp only [↓stU, stD, reduceEqDiff, ↓reduceIte, reduceAdd]
    exact ⟨by rw [eI], sY⟩
  have eI : ckE s P = psE (szP 1 s) P := by unfold ckE; rw [if_neg e0, if_neg e1]
  rw [eI]
  simp only [↓stU, stD, reduceEqDiff, ↓reduceIte, reduceAdd, evQ_faddr, faddr_ptr, ld2_0 gY, ld2_1 gY, lY, lP, decide_eq_false e1]
  refine wpc_non (by simp only [↓stU, stD, reduceEqDiff, ↓reduceIte]) (wpc_skip ?_)
  try simp only [↓stU, stD, reduceEqDiff, ↓reduceIte, reduceAdd]
  have lgY : S.nx < Y.nx := by have := y.1; omega
  refine wpc_seq (wpc_mono (Q := fun o A' X => (o = .normal ∧ XcI Y S.nx (szP 1 s) P 0 A' X) ∨ (o = .ret ∧ tmpV 2 A'.F = .int .i64 (psE (szP 1 s) P) ∧ Same Y X)) (wpc_seq (wpc_reg ?_)) ?_)
  · simp only [↓stU, stD, reduceEqDiff, ↓reduceIte, reduceAdd]
    refine wpc_block (wpc_loop (XcI Y S.nx (szP 1 s) P) ?_ P.length _ _ ⟨rfl, Same.refl _, by simp only [↓stU, stD, reduceEqDiff, ↓reduceIte, reduceAdd], by simp only [↓stU, stD, reduceEqDiff, ↓reduceIte, reduceAdd, eP], 0, by omega, by simp only [↓stU, stD, reduceEqDiff, ↓reduceIte, reduceAdd]; try rfl, rfl⟩)
    rintro k ⟨F1, inr⟩ X ⟨q0, hX, p1, p3, i, hik, p5, he⟩
    simp only at q0 p1 p3 p5
    subst q0
    have gX := (hX.2 _ lgY).trans gY
    have hPX := IsSlG.same (E := RowE) firm_row hPY hX
    have lX := IsSlG.len hPX
    refine wss ?_
    simp only [↓stU, stD, reduceEqDiff, ↓reduceIte, reduceAdd, p1, p5, evQ_faddr, faddr_ptr, ld2_1 gX, lX, dlt]
    by_cases hlt : i < P.length
    rotate_left
    · refine wpc_non (by simp only [↓stU, stD, reduceEqDiff, ↓reduceIte, decide_eq_false hlt]) (wpc_exit ?_)
      obtain rfl : k = 0 := by omega
      exact .inl ⟨rfl, rfl, hX, by simp only [↓stU, stD, reduceEqDiff, ↓reduceIte, p1], by simp only [↓stU, stD, reduceEqDiff, ↓reduceIte, p3], i, hik, by simp only [↓stU, stD, reduceEqDiff, ↓reduceIte, p5], he⟩
    refine wpc_yes (by simp only [↓stU, stD, reduceEqDiff, ↓reduceIte, decide_eq_true hlt]) (wpc_skip ?_)
    try simp only [↓stU, stD, reduceEqDiff, ↓reduceIte]
    have hget := List.getElem?_eq_getElem hlt
    have hs := psE_step (n := szP 1 s) hget
    have hrl := hr P[i] (List.getElem_mem hlt)
    obtain ⟨_, b1, q1, ia, lb1, _, ⟨rv, rfl, r1⟩, _, hf1⟩ := IsSlG.at hPX (by decide) hget
    have la := hf1 0 rv rfl
    rw [Nat.add_zero] at la
    have lr := IsSlG.len r1
    generalize P[i] = r at *
    refine wpc_seq (wpc_block (wpc_seq (wpc_seq (wpc_reg ?_))))
    by_cases c0 : ((r.length : Nat) : Int) ≠ szP 1 s
    · rw [if_pos c0] at hs
      simp only [↓stU, stD, reduceEqDiff, ↓reduceIte, reduceAdd, p1, p3, p5, evQ_faddr, faddr_ptr, ld2_1 gX, natOf_cast, ia, la, lr, decide_eq_true c0]
      refine wpc_yes (by simp only [↓stU, stD, reduceEqDiff, ↓reduceIte]) (wpc_seq (wpc_reg ?_))
      simp only [↓stU, stD, reduceEqDiff, ↓reduceIte, reduceAdd]
      refine wpc_ret ?_
      simp only [↓stU, stD, reduceEqDiff, ↓reduceIte, reduceAdd]
      exact .inr ⟨by rw [he, hs], hX⟩
    rw [if_neg c0] at hs
    simp only [↓stU, stD, reduceEqDiff, ↓reduceIte, reduceAdd, p1, p3, p5, evQ_faddr, faddr_ptr, ld2_1 gX, natOf_cast, ia, la, lr, decide_eq_false c0]
    refine wpc_non (by simp only [↓stU, stD, reduceEqDiff, ↓reduceIte]) (wpc_skip ?_)
    try simp only [↓stU, stD, reduceEqDiff, ↓reduceIte, reduceAdd]
    refine wsr ?_
    simp only [↓stU, stD, reduceEqDiff, ↓reduceIte, reduceAdd, p1, p5, evQ_faddr, faddr_ptr, ld2_1 gX, natOf_cast, ia, la]
    refine wpo_call ?_
    simp only [↓stU, stD, reduceEqDiff, ↓reduceIte, reduceAdd]
    refine wpf_mono (xlist_spec H r1 hrl) ?_
    rintro _ Z ⟨rfl, z⟩
    try simp only [↓stU, stD, reduceEqDiff, ↓reduceIte, reduceAdd]
    refine wsr ?_
    by_cases c1 : lsE r ≠ 0
    · rw [if_neg c1] at hs
      simp only [↓stU, stD, reduceEqDiff, ↓reduceIte, reduceAdd, decide_eq_true c1]
      refine wpc_yes (by simp only [↓stU, stD, reduceEqDiff, ↓reduceIte]) (wpc_seq (wpc_reg ?_))
      simp only [↓stU, stD, reduceEqDiff, ↓reduceIte, reduceAdd]
      refine wpc_ret ?_
      simp only [↓stU, stD, reduceEqDiff, ↓reduceIte, reduceAdd]
      exact .inr ⟨by rw [he, hs], hX.trans z⟩
    rw [if_pos (Classical.not_not.1 c1)] at hs
    simp only [↓stU, stD, reduceEqDiff, ↓reduceIte, reduceAdd, decide_eq_false c1]
    refine wpc_non (by simp only [↓stU, stD, reduceEqDiff, ↓reduceIte]) (wpc_skip ?_)
    try simp only [↓stU, stD, reduceEqDiff, ↓reduceIte, reduceAdd]
    refine wpc_reg ?_
    simp only [↓stU, stD, reduceEqDiff, ↓reduceIte, reduceAdd, p5, wadd1 (a := i) (by omega)]
    exact ⟨k - 1, by omega, rfl, hX.trans z, by simp only [↓stU, stD, reduceEqDiff, ↓reduceIte, p1], by simp only [↓stU, stD, reduceEqDiff, ↓reduceIte, p3], i + 1, by omega, by simp only [↓stU, stD, reduceEqDiff, ↓reduceIte, reduceAdd], by rw [he, hs]⟩
  rintro o ⟨F1, inr⟩ X (⟨rfl, q0, hX, _, _, i, hik, _, he⟩ | ⟨rfl, p2, hX⟩)
  rotate_left
  · simp only at p2
    simp only [↓stU, stD, reduceEqDiff, ↓reduceIte, p2]
    exact sY.trans hX
  simp only at q0
  subst q0
  obtain rfl : i = P.length := by omega
  rw [List.drop_length] at he
  try simp only [↓stU, stD, reduceEqDiff, ↓reduceIte, reduceAdd]
  refine wsr ?_
  simp only [↓stU, stD, reduceEqDiff, ↓reduceIte, reduceAdd]
  refine wpc_ret ?_
  simp only [↓stU, stD, reduceEqDiff, ↓reduceIte, reduceAdd]
  exact ⟨by rw [he]; rfl, sY.trans hX⟩
set_option maxHeartbeats 8000000 in
theorem checkN_spec {S : St} {sv pv : AV} {s : List Int} {P : List (List RawN)} (H : Has fns) (hL : Laid S) (h : IsSl .i64 S sv s) (hP : IsSlG 1 RowE S pv P) (hr : ∀ r ∈ P, r.length ≤ 1000000) : wpf fns (.fn 9 [] []) [.agg [sv, pv]] S fun r S' => r = .int .i64 (ckE s P) ∧ Same S S' := by
  have hsc := IsSl.cells h
  have hpc : pv.cells = some [pv] := by rcases hP with ⟨_, rfl | rfl⟩ | ⟨b, off, cap, o, cs, rfl, _⟩ <;> rfl
  refine wpf_fn H.f9 (by simp) ?_
  simp only [↓stU, stD, reduceEqDiff, ↓reduceIte, reduceAdd]
  refine wsr ?_
  refine wpo_box (by simp only [↓stU, stD, reduceEqDiff, ↓reduceIte]; exact cells_agg _) ?_
  intro S1 s1 n1 g1
  simp only [↓stU, stD, reduceEqDiff, ↓reduceIte, reduceAdd]
  refine wss ?_
  simp only [↓stU, stD, reduceEqDiff, ↓reduceIte, reduceAdd, evQ_faddr, faddr_ptr, ld2_0 g1]
  refine wpo_call ?_
  simp only [↓stU, stD, reduceEqDiff, ↓reduceIte, reduceAdd]
  refine wpf_mono (checkSizes_spec H (h.same s1)) ?_
  rintro _ Y ⟨rfl, y⟩
  have gY := (y.2 _ (show S.nx < S1.nx by omega)).trans g1
  try simp only [↓stU, stD, reduceEqDiff, ↓reduceIte, reduceAdd]
  refine wsr ?_
  by_cases e0 : szT s ≠ 0
  · have eI : ckE s P = szT s := if_pos e0
    simp only [↓stU, stD, reduceEqDiff, ↓reduceIte, reduceAdd, decide_eq_true e0]
    refine wpc_yes (by simp only [↓stU, stD, reduceEqDiff, ↓reduceIte]) (wpc_seq (wpc_reg ?_))
    simp only [↓stU, stD, reduceEqDiff, ↓reduceIte, reduceAdd]
    refine wpc_ret ?_
    simp only [↓stU, stD, reduceEqDiff, ↓reduceIte, reduceAdd]
    exact ⟨by rw [eI], s1.trans y⟩
  have e0' : szT s = 0 := Classical.not_not.1 e0
  obtain ⟨z1, z2, z3⟩ := szT_0 e0'
  obtain ⟨a1, a2, a3⟩ := szE_ok (by decide) (by decide) z1
  have hpc2 : prC s = szP 1 s := prC_ok (by decide) (by decide) z1
  have eP : (if szT s = 0 then szP 1 s else 0) = szP 1 s := if_pos e0'
  simp only [↓stU, stD, reduceEqDiff, ↓reduceIte, reduceAdd, decide_eq_false e0]
  refine wpc_non (by simp only [↓stU, stD, reduceEqDiff, ↓reduceIte]) (wpc_skip ?_)
  try simp only [↓stU, stD, reduceEqDiff, ↓reduceIte, reduceAdd]
  have sY := s1.trans y
  have hY := h.same sY
  have hPY := IsSlG.same (E := RowE) firm_row hP sY
  have lY := hY.len
  have lP := IsSlG.len hPY
  simp only [Int.ofNat_eq_natCast] at lY
  refine wss ?_
  by_cases e1 : ((P.length : Nat) : Int) ≠ ((s.length : Nat) : Int)
  · have eI : ckE s P = 10 := by unfold ckE; rw [if_neg e0, if_pos e1]
    simp only [↓stU, stD, reduceEqDiff, ↓reduceIte, reduceAdd, evQ_faddr, faddr_ptr, ld2_0 gY, ld2_1 gY, lY, lP, decide_eq_true e1]
    refine wpc_yes (by simp only [↓stU, stD, reduceEqDiff, ↓reduceIte]) (wpc_seq (wpc_reg ?_))
    simp only [↓stU, stD, reduceEqDiff, ↓reduceIte, reduceAdd]
    refine wpc_ret ?_
    simp only [↓stU, stD, reduceEqDiff, ↓reduceIte, reduceAdd]
    exact ⟨by rw [eI], sY⟩
  have eI : ckE s P = psE (szP 1 s) P := by unfold ckE; rw [if_neg e0, if_neg e1]
  rw [eI]
  simp only [↓stU, stD, reduceEqDiff, ↓reduceIte, reduceAdd, evQ_faddr, faddr_ptr, ld2_0 gY, ld2_1 gY, lY, lP, decide_eq_false e1]
  refine wpc_non (by simp only [↓stU, stD, reduceEqDiff, ↓reduceIte]) (wpc_skip ?_)
  try simp only [↓stU, stD, reduceEqDiff, ↓reduceIte, reduceAdd]
  have lgY : S.nx < Y.nx := by have := y.1; omega
  refine wpc_seq (wpc_mono (Q := fun o A' X => (o = .normal ∧ PcI Y S.nx pv (szP 1 s) P 0 A' X) ∨ (o = .ret ∧ tmpV 2 A'.F = .int .i64 (psE (szP 1 s) P) ∧ Same Y X)) (wpc_seq (wpc_reg ?_)) ?_)
  · simp only [↓stU, stD, reduceEqDiff, ↓reduceIte, reduceAdd, evQ_faddr, faddr_ptr, ld2_1 gY, lP]
    refine wpc_block (wpc_loop (PcI Y S.nx pv (szP 1 s) P) ?_ P.length _ _ ⟨rfl, Same.refl _, by simp only [↓stU, stD, reduceEqDiff, ↓reduceIte, reduceAdd], by simp only [↓stU, stD, reduceEqDiff, ↓reduceIte, reduceAdd], by simp only [↓stU, stD, reduceEqDiff, ↓reduceIte, reduceAdd], 0, by omega, by simp only [↓stU, stD, reduceEqDiff, ↓reduceIte, reduceAdd]; try rfl, rfl⟩)
    rintro k ⟨F1, inr⟩ X ⟨q0, hX, p1, p23, p24, i, hik, p25, he⟩
    simp only at q0 p1 p23 p24 p25
    subst q0
    have gX := (hX.2 _ lgY).trans gY
    have hPX := IsSlG.same (E := RowE) firm_row hPY hX
    have hX0 := hY.same hX
    refine wsr ?_
    simp only [↓stU, stD, reduceEqDiff, ↓reduceIte, reduceAdd, p24, p25, dlt]
    by_cases hlt : i < P.length
    rotate_left
    · refine wpc_seq (wpc_non (by simp only [↓stU, stD, reduceEqDiff, ↓reduceIte, decide_eq_false hlt]) (wpc_exit ?_))
      obtain rfl : k = 0 := by omega
      exact .inl ⟨rfl, rfl, hX, by simp only [↓stU, stD, reduceEqDiff, ↓reduceIte, p1], by simp only [↓stU, stD, reduceEqDiff, ↓reduceIte, p23], by simp only [↓stU, stD, reduceEqDiff, ↓reduceIte, p24], i, hik, by simp only [↓stU, stD, reduceEqDiff, ↓reduceIte, p25], he⟩
    refine wpc_seq (wpc_yes (by simp only [↓stU, stD, reduceEqDiff, ↓reduceIte, decide_eq_true hlt]) (wpc_skip ?_))
    try simp only [↓stU, stD, reduceEqDiff, ↓reduceIte]
    have hget := List.getElem?_eq_getElem hlt
    have hs := psE_step (n := szP 1 s) hget
    have hrl := hr P[i] (List.getElem_mem hlt)
    obtain ⟨_, b1, q1, ia, lb1, _, ⟨rv, rfl, r1⟩, _, hf1⟩ := IsSlG.at hPX (by decide) hget
    have la := hf1 0 rv rfl
    rw [Nat.add_zero] at la
    have lr := IsSlG.len r1
    generalize P[i] = r at *
    refine wpc_seq (wpc_block (wpc_seq (wpc_reg ?_)))
    simp only [↓stU, stD, reduceEqDiff, ↓reduceIte, reduceAdd, p23, p25, natOf_cast, ia, la]
    refine wss ?_
    simp only [↓stU, stD, reduceEqDiff, ↓reduceIte, reduceAdd, lr, p1, evQ_faddr, faddr_ptr, ld2_0 gX]
    refine wpo_call ?_
    simp only [↓stU, stD, reduceEqDiff, ↓reduceIte, reduceAdd]
    refine wpf_mono (product_spec H hX0 (fun q hq => (a1 q hq).1) (by omega)) ?_
    rintro _ Z ⟨rfl, z⟩
    rw [hpc2]
    have r2 := IsSlG.same (E := RawE) firm_raw r1 z
    by_cases c0 : ((r.length : Nat) : Int) ≠ szP 1 s
    · rw [if_pos c0] at hs
      simp only [↓stU, stD, reduceEqDiff, ↓reduceIte, reduceAdd, decide_eq_true c0]
      refine wpc_yes (by simp only [↓stU, stD, reduceEqDiff, ↓reduceIte]) (wpc_seq (wpc_reg ?_))
      simp only [↓stU, stD, reduceEqDiff, ↓reduceIte, reduceAdd]
      refine wpc_ret ?_
      simp only [↓stU, stD, reduceEqDiff, ↓reduceIte, reduceAdd]
      exact .inr ⟨by rw [he, hs], hX.trans z⟩
    rw [if_neg c0] at hs
    simp only [↓stU, stD, reduceEqDiff, ↓reduceIte, reduceAdd, decide_eq_false c0]
    refine wpc_non (by simp only [↓stU, stD, reduceEqDiff, ↓reduceIte]) (wpc_skip ?_)
    try simp only [↓stU, stD, reduceEqDiff, ↓reduceIte, reduceAdd]
    refine wpc_mono (Q := fun o A' W => (o = .normal ∧ PrI Z S.nx pv rv P.length i r 0 A' W) ∨ (o = .ret ∧ lsE r ≠ 0 ∧ tmpV 2 A'.F = .int .i64 (lsE r) ∧ Same Z W)) (wpc_seq (wpc_reg ?_)) ?_
    · simp only [↓stU, stD, reduceEqDiff, ↓reduceIte, reduceAdd, IsSlG.len r2]
      refine wpc_block (wpc_loop (PrI Z S.nx pv rv P.length i r) ?_ r.length _ _ ⟨rfl, Same.refl _, by simp only [↓stU, stD, reduceEqDiff, ↓reduceIte, reduceAdd, p1], by simp only [↓stU, stD, reduceEqDiff, ↓reduceIte, reduceAdd, p23], by simp only [↓stU, stD, reduceEqDiff, ↓reduceIte, reduceAdd, p24], by simp only [↓stU, stD, reduceEqDiff, ↓reduceIte, reduceAdd, p25], by simp only [↓stU, stD, reduceEqDiff, ↓reduceIte, reduceAdd], by simp only [↓stU, stD, reduceEqDiff, ↓reduceIte, reduceAdd], 0, by omega, by simp only [↓stU, stD, reduceEqDiff, ↓reduceIte, reduceAdd]; try rfl, rfl⟩)
      clear p1 p23 p24 p25
      rintro k2 ⟨F2, inr⟩ W ⟨q0, hW, p1, p23, p24, p25, p35, p36, j, hjk, p37, hl⟩
      simp only at q0 p1 p23 p24 p25 p35 p36 p37
      subst q0
      have r3 := IsSlG.same (E := RawE) firm_raw r2 hW
      refine wsr ?_
      simp only [↓stU, stD, reduceEqDiff, ↓reduceIte, reduceAdd, p36, p37, dlt]
      by_cases hj : j < r.length
      rotate_left
      · refine wpc_seq (wpc_non (by simp only [↓stU, stD, reduceEqDiff, ↓reduceIte, decide_eq_false hj]) (wpc_exit ?_))
        obtain rfl : k2 = 0 := by omega
        exact .inl ⟨rfl, rfl, hW, by simp only [↓stU, stD, reduceEqDiff, ↓reduceIte, p1], by simp only [↓stU, stD, reduceEqDiff, ↓reduceIte, p23], by simp only [↓stU, stD, reduceEqDiff, ↓reduceIte, p24], by simp only [↓stU, stD, reduceEqDiff, ↓reduceIte, p25], by simp only [↓stU, stD, reduceEqDiff, ↓reduceIte, p35], by simp only [↓stU, stD, reduceEqDiff, ↓reduceIte, p36], j, hjk, by simp only [↓stU, stD, reduceEqDiff, ↓reduceIte, p37], hl⟩
      refine wpc_seq (wpc_yes (by simp only [↓stU, stD, reduceEqDiff, ↓reduceIte, decide_eq_true hj]) (wpc_skip ?_))
      try simp only [↓stU, stD, reduceEqDiff, ↓reduceIte]
      have hget2 := List.getElem?_eq_getElem hj
      have hs2 := lsE_step hget2
      obtain ⟨_, b2, q2, ia2, lb2, _, hE, ld2, _⟩ := IsSlG.at r3 (by decide) hget2
      obtain ⟨nv, dv, rfl, t1, t2⟩ := hE
      refine wpc_seq (wpc_block (wpc_seq (wpc_reg ?_)))
      simp only [↓stU, stD, reduceEqDiff, ↓reduceIte, reduceAdd, p35, p37, natOf_cast, ia2, ld2]
      refine wpo_alloc ?_
      intro V1 v1 m1 h1
      refine wpo_st (b := W.nx) (by simp only [↓stU, stD, reduceEqDiff, ↓reduceIte, reduceAdd]) (by simp only [↓stU, stD, reduceEqDiff, ↓reduceIte, reduceAdd]; exact cells_agg _) h1 rfl rfl ?_
      intro V v2 m2 h2
      simp only [↓stU, stD, reduceEqDiff, ↓reduceIte, reduceAdd]
      have sV : Same W V := v2.same v1 (Nat.le_refl _)
      have lgV : qLdV (.ptr W.nx 0) true 3 V.h = some (.agg [.bool r[j].neg, nv, dv]) := lg3_a h2
      refine wsr ?_
      simp only [↓stU, stD, reduceEqDiff, ↓reduceIte, reduceAdd, lgV]
      refine wpo_call ?_
      simp only [↓stU, stD, reduceEqDiff, ↓reduceIte, reduceAdd]
      refine wpf_mono (check_spec H (hL.same (((sY.trans hX).trans z).trans (hW.trans sV))) ⟨nv, dv, rfl, t1.same sV, t2.same sV⟩) ?_
      rintro _ U hU
      obtain ⟨rfl, u⟩ := hU
      try simp only [↓stU, stD, reduceEqDiff, ↓reduceIte, reduceAdd]
      refine wsr ?_
      by_cases c2 : rawC r[j] ≠ 0
      · rw [if_neg c2] at hs2
        have c2' : rchk r[j].neg r[j].num r[j].den ≠ 0 := c2
        simp only [↓stU, stD, reduceEqDiff, ↓reduceIte, reduceAdd, decide_eq_true c2']
        refine wpc_yes (by simp only [↓stU, stD, reduceEqDiff, ↓reduceIte]) (wpc_seq (wpc_reg ?_))
        simp only [↓stU, stD, reduceEqDiff, ↓reduceIte, reduceAdd]
        refine wpc_ret ?_
        simp only [↓stU, stD, reduceEqDiff, ↓reduceIte, reduceAdd]
        exact .inr ⟨by rw [hl, hs2]; exact c2, by rw [hl, hs2]; rfl, (hW.trans sV).trans u⟩
      have c3 : rawC r[j] = 0 := Classical.not_not.1 c2
      rw [if_pos c3] at hs2
      have c2' : ¬ rchk r[j].neg r[j].num r[j].den ≠ 0 := c2
      simp only [↓stU, stD, reduceEqDiff, ↓reduceIte, reduceAdd, decide_eq_false c2']
      refine wpc_non (by simp only [↓stU, stD, reduceEqDiff, ↓reduceIte]) (wpc_skip ?_)
      try simp only [↓stU, stD, reduceEqDiff, ↓reduceIte, reduceAdd]
      refine wpc_reg ?_
      simp only [↓stU, stD, reduceEqDiff, ↓reduceIte, reduceAdd, p37, wadd1 (a := j) (by omega)]
      exact ⟨k2 - 1, by omega, rfl, (hW.trans sV).trans u, by simp only [↓stU, stD, reduceEqDiff, ↓reduceIte, p1], by simp only [↓stU, stD, reduceEqDiff, ↓reduceIte, p23], by simp only [↓stU, stD, reduceEqDiff, ↓reduceIte, p24], by simp only [↓stU, stD, reduceEqDiff, ↓reduceIte, p25], by simp only [↓stU, stD, reduceEqDiff, ↓reduceIte, p35], by simp only [↓stU, stD, reduceEqDiff, ↓reduceIte, p36], j + 1, by omega, by simp only [↓stU, stD, reduceEqDiff, ↓reduceIte, reduceAdd], by rw [hl, hs2]⟩
    clear p1 p23 p24 p25
    rintro o ⟨F2, inr⟩ W (⟨rfl, q0, hW, p1, p23, p24, p25, _, _, j, hjk, _, hl⟩ | ⟨rfl, hne, p2, hW⟩)
    rotate_left
    · simp only at p2
      rw [if_neg hne] at hs
      simp only [↓stU, stD, reduceEqDiff, ↓reduceIte, reduceAdd]
      exact .inr ⟨by rw [p2, he, hs], (hX.trans z).trans hW⟩
    simp only at q0 p1 p23 p24 p25
    subst q0
    obtain rfl : j = r.length := by omega
    rw [List.drop_length] at hl
    rw [if_pos (show lsE r = 0 from hl)] at hs
    try simp only [↓stU, stD, reduceEqDiff, ↓reduceIte, reduceAdd]
    refine wpc_reg ?_
    simp only [↓stU, stD, reduceEqDiff, ↓reduceIte, reduceAdd, p25, wadd1 (a := i) (by omega)]
    exact ⟨k - 1, by omega, rfl, (hX.trans z).trans hW, by simp only [↓stU, stD, reduceEqDiff, ↓reduceIte, p1], by simp only [↓stU, stD, reduceEqDiff, ↓reduceIte, p23], by simp only [↓stU, stD, reduceEqDiff, ↓reduceIte, p24], i + 1, by omega, by simp only [↓stU, stD, reduceEqDiff, ↓reduceIte, reduceAdd], by rw [he, hs]⟩
  rintro o ⟨F1, inr⟩ X (⟨rfl, q0, hX, _, _, _, i, hik, _, he⟩ | ⟨rfl, p2, hX⟩)
  rotate_left
  · simp only at p2
    simp only [↓stU, stD, reduceEqDiff, ↓reduceIte, p2]
    exact sY.trans hX
  simp only at q0
  subst q0
  obtain rfl : i = P.length := by omega
  rw [List.drop_length] at he
  try simp only [↓stU, stD, reduceEqDiff, ↓reduceIte, reduceAdd]
  refine wsr ?_
  simp only [↓stU, stD, reduceEqDiff, ↓reduceIte, reduceAdd]
  refine wpc_ret ?_
  simp only [↓stU, stD, reduceEqDiff, ↓reduceIte, reduceAdd]
  exact ⟨by rw [he]; rfl, sY.trans hX⟩
end Go.Ev.Gl

namespace Go.Ev.Gl
variable {fns : T AFn}

/-! ## The law NormalForms -/
def FmI (S : St) (gb : Nat) (uv : AV) (x : Int) (P : List (List RawN)) (k : Nat) (A : Act') (X : St) : Prop := A.inr = false ∧ Same S X ∧ tmpV 1 A.F = uv ∧ tmpV 2 A.F = .int .i64 x ∧ tmpV 3 A.F = .ptr gb 0 ∧ ∃ i, i + k = P.length ∧ tmpV 7 A.F = .int .i64 ((i : Nat) : Int) ∧ ∀ r ∈ P.take i, r.length ≤ 300
set_option maxHeartbeats 16000000 in
theorem forms_spec {S : St} {sv pv uv : AV} {s p : List Int} {P : List (List RawN)} {x : Int} (H : Has fns) (hAw : ∀ X, Same S X → wpf fns (.fn 4 [] []) [] X fun r S' => r = .bool true ∧ Same X S') (hL : Laid S) (h : IsSl .i64 S sv s) (hP : IsSlG 1 RowE S pv P) (hp : IsSl .i64 S uv p) :
    wpf fns (.fn 3 [] []) [.agg [sv, pv], uv, .int .i64 x] S fun r S' => r = .bool true ∧ Same S S' := by
  have hsc := IsSl.cells h
  have hpc : pv.cells = some [pv] := by rcases hP with ⟨_, rfl | rfl⟩ | ⟨b, off, cap, o, cs, rfl, _⟩ <;> rfl
  refine wpf_fn H.f3 (by simp) ?_
  simp only [↓stU, stD, reduceEqDiff, ↓reduceIte, reduceAdd]
  refine wsr ?_
  refine wpo_box (by simp only [↓stU, stD, reduceEqDiff, ↓reduceIte]; exact cells_agg _) ?_
  intro S1 s1 n1 g1
  simp only [↓stU, stD, reduceEqDiff, ↓reduceIte, reduceAdd]
  refine wss ?_
  refine wpo_call ?_
  try simp only [↓stU, stD, reduceEqDiff, ↓reduceIte]
  refine wpf_mono (hAw S1 s1) ?_
  rintro _ Y ⟨rfl, y⟩
  try simp only [↓stU, stD, reduceEqDiff, ↓reduceIte, un_not, Bool.not_true]
  refine wpc_non (by simp only [↓stU, stD, reduceEqDiff, ↓reduceIte]) (wpc_skip ?_)
  try simp only [↓stU, stD, reduceEqDiff, ↓reduceIte]
  have gY := (y.2 _ (show S.nx < S1.nx by omega)).trans g1
  have sY := s1.trans y
  have hY := h.same sY
  have hPY := IsSlG.same (E := RowE) firm_row hP sY
  have lY := hY.len
  have lP := IsSlG.len hPY
  simp only [Int.ofNat_eq_natCast] at lY
  have lgY : S.nx < Y.nx := by have := y.1; omega
  refine wss ?_
  by_cases c1 : (6 : Int) < ((s.length : Nat) : Int)
  · simp only [↓stU, stD, reduceEqDiff, ↓reduceIte, reduceAdd, evQ_faddr, faddr_ptr, ld2_0 gY, ld2_1 gY, lY, lP, decide_eq_true c1]
    refine wpc_yes (by simp only [↓stU, stD, reduceEqDiff, ↓reduceIte]; try rfl) (wpc_seq (wpc_reg ?_))
    simp only [↓stU, stD, reduceEqDiff, ↓reduceIte]
    refine wpc_ret ?_
    simp only [↓stU, stD, reduceEqDiff, ↓reduceIte]
    exact sY
  by_cases c2 : (6 : Int) < ((P.length : Nat) : Int)
  · simp only [↓stU, stD, reduceEqDiff, ↓reduceIte, reduceAdd, evQ_faddr, faddr_ptr, ld2_0 gY, ld2_1 gY, lY, lP, decide_eq_false c1, decide_eq_true c2]
    refine wpc_yes (by simp only [↓stU, stD, reduceEqDiff, ↓reduceIte]; try rfl) (wpc_seq (wpc_reg ?_))
    simp only [↓stU, stD, reduceEqDiff, ↓reduceIte]
    refine wpc_ret ?_
    simp only [↓stU, stD, reduceEqDiff, ↓reduceIte]
    exact sY
  simp only [↓stU, stD, reduceEqDiff, ↓reduceIte, reduceAdd, evQ_faddr, faddr_ptr, ld2_0 gY, ld2_1 gY, lY, lP, decide_eq_false c1, decide_eq_false c2]
  refine wpc_non (by simp only [↓stU, stD, reduceEqDiff, ↓reduceIte]; try rfl) (wpc_skip ?_)
  try simp only [↓stU, stD, reduceEqDiff, ↓reduceIte]
  refine wpc_seq (wpc_mono (Q := fun o A' X => (o = .normal ∧ FmI Y S.nx uv x P 0 A' X) ∨ (o = .ret ∧ tmpV 6 A'.F = .bool true ∧ Same Y X)) (wpc_seq (wpc_reg ?_)) ?_)
  · simp only [↓stU, stD, reduceEqDiff, ↓reduceIte, reduceAdd]
    refine wpc_block (wpc_loop (FmI Y S.nx uv x P) ?_ P.length _ _ ⟨rfl, Same.refl _, by simp only [↓stU, stD, reduceEqDiff, ↓reduceIte, reduceAdd], by simp only [↓stU, stD, reduceEqDiff, ↓reduceIte, reduceAdd], by simp only [↓stU, stD, reduceEqDiff, ↓reduceIte, reduceAdd], 0, by omega, by simp only [↓stU, stD, reduceEqDiff, ↓reduceIte, reduceAdd]; try rfl, fun r hr => by cases hr⟩)
    rintro k ⟨F1, inr⟩ X ⟨q0, hX, p1, p2, p3, i, hik, p7, he⟩
    simp only at q0 p1 p2 p3 p7
    subst q0
    have gX := (hX.2 _ lgY).trans gY
    have hPX := IsSlG.same (E := RowE) firm_row hPY hX
    have lX := IsSlG.len hPX
    refine wss ?_
    simp only [↓stU, stD, reduceEqDiff, ↓reduceIte, reduceAdd, p3, p7, evQ_faddr, faddr_ptr, ld2_1 gX, lX, dlt]
    by_cases hlt : i < P.length
    rotate_left
    · refine wpc_non (by simp only [↓stU, stD, reduceEqDiff, ↓reduceIte, decide_eq_false hlt]) (wpc_exit ?_)
      obtain rfl : k = 0 := by omega
      exact .inl ⟨rfl, rfl, hX, by simp only [↓stU, stD, reduceEqDiff, ↓reduceIte, p1], by simp only [↓stU, stD, reduceEqDiff, ↓reduceIte, p2], by simp only [↓stU, stD, reduceEqDiff, ↓reduceIte, p3], i, hik, by simp only [↓stU, stD, reduceEqDiff, ↓reduceIte, p7], he⟩
    refine wpc_yes (by simp only [↓stU, stD, reduceEqDiff, ↓reduceIte, decide_eq_true hlt]) (wpc_skip ?_)
    try simp only [↓stU, stD, reduceEqDiff, ↓reduceIte]
    have hget := List.getElem?_eq_getElem hlt
    obtain ⟨_, b1, q1, ia, lb1, _, ⟨rv, rfl, r1⟩, _, hf1⟩ := IsSlG.at hPX (by decide) hget
    have la := hf1 0 rv rfl
    rw [Nat.add_zero] at la
    have lr := IsSlG.len r1
    have htk := List.take_succ_eq_append_getElem hlt
    generalize P[i] = r at *
    refine wpc_seq (wpc_block (wpc_seq (wpc_reg ?_)))
    by_cases c0 : (300 : Int) < ((r.length : Nat) : Int)
    · simp only [↓stU, stD, reduceEqDiff, ↓reduceIte, reduceAdd, p3, p7, evQ_faddr, faddr_ptr, ld2_1 gX, natOf_cast, ia, la, lr, decide_eq_true c0]
      refine wpc_yes (by simp only [↓stU, stD, reduceEqDiff, ↓reduceIte]) (wpc_seq (wpc_reg ?_))
      simp only [↓stU, stD, reduceEqDiff, ↓reduceIte, reduceAdd]
      refine wpc_ret ?_
      simp only [↓stU, stD, reduceEqDiff, ↓reduceIte, reduceAdd]
      exact .inr hX
    simp only [↓stU, stD, reduceEqDiff, ↓reduceIte, reduceAdd, p3, p7, evQ_faddr, faddr_ptr, ld2_1 gX, natOf_cast, ia, la, lr, decide_eq_false c0]
    refine wpc_non (by simp only [↓stU, stD, reduceEqDiff, ↓reduceIte]) (wpc_skip ?_)
    try simp only [↓stU, stD, reduceEqDiff, ↓reduceIte, reduceAdd]
    refine wpc_reg ?_
    simp only [↓stU, stD, reduceEqDiff, ↓reduceIte, reduceAdd, p7, wadd1 (a := i) (by omega)]
    refine ⟨k - 1, by omega, rfl, hX, by simp only [↓stU, stD, reduceEqDiff, ↓reduceIte, p1], by simp only [↓stU, stD, reduceEqDiff, ↓reduceIte, p2], by simp only [↓stU, stD, reduceEqDiff, ↓reduceIte, p3], i + 1, by omega, by simp only [↓stU, stD, reduceEqDiff, ↓reduceIte, reduceAdd], fun q hq => ?_⟩
    rw [htk] at hq
    rcases List.mem_append.1 hq with hq | hq
    · exact he q hq
    · rw [List.mem_singleton.1 hq]; omega
  rintro o ⟨F1, inr⟩ X (⟨rfl, q0, hX, p1, p2, p3, i, hik, _, he⟩ | ⟨rfl, p6, hX⟩)
  rotate_left
  · simp only at p6
    simp only [↓stU, stD, reduceEqDiff, ↓reduceIte, p6]
    exact sY.trans hX
  simp only at q0 p1 p2 p3
  subst q0
  obtain rfl : i = P.length := by omega
  rw [List.take_length] at he
  have hr : ∀ r ∈ P, r.length ≤ 1000000 := fun r hr => by have := he r hr; omega
  have sX := sY.trans hX
  have gX := (hX.2 _ lgY).trans gY
  have lgX : S.nx < X.nx := by have := hX.1; omega
  try simp only [↓stU, stD, reduceEqDiff, ↓reduceIte, reduceAdd]
  -- Index
  refine wsr ?_
  simp only [↓stU, stD, reduceEqDiff, ↓reduceIte, reduceAdd, p1, p3, evQ_faddr, faddr_ptr, ld2_0 gX]
  refine wpo_call ?_
  simp only [↓stU, stD, reduceEqDiff, ↓reduceIte, reduceAdd]
  refine wpf_mono (index_spec H (h.same sX) (hp.same sX)) ?_
  rintro _ X1 ⟨rfl, x1⟩
  have g1X := (x1.2 _ lgX).trans gX
  have lg1 : S.nx < X1.nx := by have := x1.1; omega
  have sX1 := sX.trans x1
  simp only [↓stU, stD, reduceEqDiff, ↓reduceIte, reduceAdd, ex0, ex1]
  refine wsr ?_
  simp only [↓stU, stD, reduceEqDiff, ↓reduceIte, reduceAdd, p1, p3, evQ_faddr, faddr_ptr, ld2_0 g1X]
  refine wpo_call ?_
  simp only [↓stU, stD, reduceEqDiff, ↓reduceIte, reduceAdd]
  refine wpf_mono (xindex_spec H (h.same sX1) (hp.same sX1)) ?_
  rintro _ X2 ⟨rfl, x2⟩
  have g2X := (x2.2 _ lg1).trans g1X
  have lg2 : S.nx < X2.nx := by have := x2.1; omega
  have sX2 := sX1.trans x2
  simp only [↓stU, stD, reduceEqDiff, ↓reduceIte, reduceAdd, ex0, ex1]
  -- Profile
  refine wsr ?_
  simp only [↓stU, stD, reduceEqDiff, ↓reduceIte, reduceAdd, p2, p3, evQ_faddr, faddr_ptr, ld2_0 g2X]
  refine wpo_call ?_
  simp only [↓stU, stD, reduceEqDiff, ↓reduceIte, reduceAdd]
  refine wpf_mono (profile_spec H (h.same sX2)) ?_
  rintro _ X3 ⟨cv, rfl, x3, icv⟩
  have g3X := (x3.2 _ lg2).trans g2X
  have lg3 : S.nx < X3.nx := by have := x3.1; omega
  have sX3 := sX2.trans x3
  simp only [↓stU, stD, reduceEqDiff, ↓reduceIte, reduceAdd, ex0, ex1]
  refine wsr ?_
  simp only [↓stU, stD, reduceEqDiff, ↓reduceIte, reduceAdd, p2, p3, evQ_faddr, faddr_ptr, ld2_0 g3X]
  refine wpo_call ?_
  simp only [↓stU, stD, reduceEqDiff, ↓reduceIte, reduceAdd]
  refine wpf_mono (xprofile_spec H (h.same sX3)) ?_
  rintro _ X4 ⟨dv, rfl, x4, idv⟩
  have g4X := (x4.2 _ lg3).trans g3X
  have lg4 : S.nx < X4.nx := by have := x4.1; omega
  have sX4 := sX3.trans x4
  simp only [↓stU, stD, reduceEqDiff, ↓reduceIte, reduceAdd, ex0, ex1]
  -- Check
  have ssv := IsSl.self (h.same sX4)
  have spv := IsSlG.self (IsSlG.same (E := RowE) firm_row hP sX4)
  have sag := agg2_self ssv spv
  have icv4 := icv.same x4
  have sd1 := IsSl.self icv4
  have sd2 := IsSl.self idv
  have lag : qLdV (.ptr S.nx 0) true 2 X4.h = some (.agg [sv, pv]) := ldall g4X rfl
  refine wpc_seq (wpc_drd1 (fun _ => False) ?_)
  intro V sV
  simp only [↓sU, sD, reduceEqDiff, ↓reduceIte, reduceAdd, p3, lag, lg4, not_false_eq_true, sag]
  refine runD_call0 rfl ?_
  simp only [↓sU, sD, reduceEqDiff, ↓reduceIte, reduceAdd]
  have sV4 := sX4.trans sV
  refine wpf_mono (checkN_spec H (hL.same sV4) (h.same sV4) (IsSlG.same (E := RowE) firm_row hP sV4) hr) ?_
  rintro _ V1 ⟨rfl, v1⟩
  refine ⟨v1, ?_⟩
  simp only [↓sU, sD, reduceEqDiff, ↓reduceIte, reduceAdd, p3, lag, lg4, not_false_eq_true, sag]
  refine runD_call0 rfl ?_
  simp only [↓sU, sD, reduceEqDiff, ↓reduceIte, reduceAdd]
  have sV5 := sV4.trans v1
  refine wpf_mono (xcheckN_spec H (h.same sV5) (IsSlG.same (E := RowE) firm_row hP sV5) hr) ?_
  rintro _ V2 ⟨rfl, v2⟩
  refine ⟨v2, ?_⟩
  have dT : ∀ i : Decidable True, @decide True i = true := fun i => @decide_eq_true True i trivial
  have hlen : (if pfE s x = 0 then dgL s x else []).length ≤ 10000000 := by
    split
    · unfold dgL; rw [List.length_map, List.length_range]; omega
    · exact Nat.zero_le _
  have v12 := (sV.trans v1).trans v2
  simp only [↓sU, sD, reduceEqDiff, ↓reduceIte, reduceAdd, dT, evQ_pick, isLoad_pick, qPick_bool, bsel_true, bsel_false, same_int, sd1, sd2]
  refine runD_call0 rfl ?_
  simp only [↓sU, sD, reduceEqDiff, ↓reduceIte, reduceAdd]
  refine wpf_mono (alikeI_spec H (icv4.same v12) (idv.same v12) hlen) ?_
  rintro _ V3 ⟨rfl, v3⟩
  rw [decide_eq_true rfl]
  refine ⟨v3, ?_⟩
  simp only [↓sU, sD, reduceEqDiff, ↓reduceIte, reduceAdd, dT, evQ_pick, isLoad_pick, qPick_bool, bsel_true, bsel_false]
  refine wpc_ret ?_
  simp only [↓sU, sD, reduceEqDiff, ↓reduceIte, reduceAdd]
  exact sX4.trans (v12.trans v3)
end Go.Ev.Gl
