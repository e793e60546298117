/- Contracts (3): rational numbers, the statements' tools, the law. -/
import Derived.Test.YtmbmidkdinllgaaDoorGl2
open Nat (reduceEqDiff)
set_option maxHeartbeats 4000000
set_option linter.unusedSimpArgs false
set_option linter.unusedVariables false
namespace Go.Ev.Gl
variable {fns : T AFn}

/-- short enough for a product of some such numbers -/
def Half (n : Nat) : Prop := n < B ^ 20000
def HalfR (q : Rat) : Prop := Half q.num.natAbs ∧ Half q.den
theorem Half.fits {n : Nat} (h : Half n) : Fits n := Fits.of h (by decide)
theorem Half.mono {n m : Nat} (h : Half m) (hn : n ≤ m) : Half n := Nat.lt_of_le_of_lt hn h
theorem Half.div {n m : Nat} (h : Half n) : Half (n / m) := h.mono (Nat.div_le_self ..)
theorem pow_B_pos (k : Nat) : 0 < B ^ k := Nat.pow_pos B_pos
theorem mul_lt_pow {a b i j : Nat} (ha : a < B ^ i) (hb : b < B ^ j) : a * b < B ^ (i + j) := by
  rw [Nat.pow_add]
  rcases Nat.eq_zero_or_pos b with h | h
  · subst h; rw [Nat.mul_zero]; exact Nat.mul_pos (pow_B_pos i) (pow_B_pos j)
  · exact Nat.lt_of_lt_of_le (Nat.mul_lt_mul_of_pos_right ha h) (Nat.mul_le_mul_left _ (Nat.le_of_lt hb))
theorem add_lt_pow {a b i : Nat} (ha : a < B ^ i) (hb : b < B ^ i) : a + b < B ^ (i + 1) := by
  rw [Nat.pow_succ]
  have hB : B = 1000000000 := rfl
  have : B ^ i * 2 ≤ B ^ i * B := Nat.mul_le_mul_left _ (by omega)
  omega
theorem Half.mul {a b : Nat} (ha : Half a) (hb : Half b) : Fits (a * b) := Fits.of (mul_lt_pow ha hb) (by decide)
theorem HalfR.fits {q : Rat} (h : HalfR q) : FitsR q := ⟨h.1.fits, h.2.fits⟩
end Go.Ev.Gl

namespace Go.Ev.Gl
variable {fns : T AFn}

/-- both parts have at most 1024 limbs -/
def InBound (q : Rat) : Prop := q.num.natAbs < B ^ 1024 ∧ q.den < B ^ 1024
theorem norm_len_iff {l : List Nat} (h : Norm l) (K : Nat) : l.length ≤ K ↔ val l < B ^ K := by
  constructor
  · intro hl
    exact Nat.lt_of_lt_of_le (val_lt h.1) (Nat.pow_le_pow_right B_pos hl)
  · exact len_le h

theorem fits_spec {S : St} {v : AV} {q : Rat} (H : Has fns) (h : RatIs S v q) : wpf fns (.fn 97 [] []) [v] S fun r S' => ∃ b, r = .bool b ∧ (b = true ↔ InBound q) ∧ Same S S' := by
  obtain ⟨nv, dv, rfl, ⟨l1, i1, j1, v1⟩, ⟨l2, i2, j2, v2⟩⟩ := h
  have e1 := norm_len_iff j1 1024
  have e2 := norm_len_iff j2 1024
  rw [v1] at e1
  rw [v2] at e2
  refine wpf_fn H.f97 (by simp) ?_
  simp only [↓stU, stD, reduceEqDiff, ↓reduceIte]
  refine wsr ?_
  refine wpo_box (by simp only [↓stU, stD, reduceEqDiff, ↓reduceIte, cells_agg]; rfl) ?_
  intro S1 hS1 hn1 hb1
  simp only [↓stU, stD, reduceEqDiff, ↓reduceIte]
  refine wsr ?_
  by_cases h1 : l1.length ≤ 1024
  · have d1 : decide (((l1.length : Nat) : Int) ≤ 1024) = true := decide_eq_true (by omega)
    by_cases h2 : l2.length ≤ 1024
    · have d2 : decide (((l2.length : Nat) : Int) ≤ 1024) = true := decide_eq_true (by omega)
      simp only [↓stU, stD, reduceEqDiff, ↓reduceIte, ↓stV, stW, Nat.reduceAdd, evQ_faddr, faddr_ptr, ld3_1 hb1, ld3_2 hb1, i1.len, i2.len, d1, d2]
      refine wpc_ret ?_
      simp only [↓stU, stD, reduceEqDiff, ↓reduceIte, ↓stV, stW, Nat.reduceAdd]
      exact ⟨true, rfl, ⟨fun _ => ⟨e1.1 h1, e2.1 h2⟩, fun _ => rfl⟩, hS1⟩
    · have d2 : decide (((l2.length : Nat) : Int) ≤ 1024) = false := decide_eq_false (by omega)
      simp only [↓stU, stD, reduceEqDiff, ↓reduceIte, ↓stV, stW, Nat.reduceAdd, evQ_faddr, faddr_ptr, ld3_1 hb1, ld3_2 hb1, i1.len, i2.len, d1, d2]
      refine wpc_ret ?_
      simp only [↓stU, stD, reduceEqDiff, ↓reduceIte, ↓stV, stW, Nat.reduceAdd]
      exact ⟨false, rfl, ⟨fun h => (by cases h), fun h => absurd (e2.2 h.2) h2⟩, hS1⟩
  · have d1 : decide (((l1.length : Nat) : Int) ≤ 1024) = false := decide_eq_false (by omega)
    simp only [↓stU, stD, reduceEqDiff, ↓reduceIte, ↓stV, stW, Nat.reduceAdd, evQ_faddr, faddr_ptr, ld3_1 hb1, i1.len, d1]
    refine wpc_ret ?_
    simp only [↓stU, stD, reduceEqDiff, ↓reduceIte, ↓stV, stW, Nat.reduceAdd]
    exact ⟨false, rfl, ⟨fun h => (by cases h), fun h => absurd (e1.2 h.1) h1⟩, hS1⟩
end Go.Ev.Gl

namespace Go.Ev.Gl
variable {fns : T AFn}

/-! ## Which numbers are valid -/
open Classical in
noncomputable def chk (l : List Nat) : Int := if 1024 < l.length then 4 else if Norm l then 0 else 3
noncomputable def partsE (l m : List Nat) : Int := if chk l ≠ 0 then chk l else if chk m ≠ 0 then chk m else if m = [] then 6 else 0
noncomputable def rchk (s : Bool) (l m : List Nat) : Int := if partsE l m ≠ 0 then partsE l m else if (l = [] ∧ s = true) ∨ Nat.gcd (val l) (val m) ≠ 1 then 3 else 0

theorem chk_zero {l : List Nat} : chk l = 0 ↔ l.length ≤ 1024 ∧ Norm l := by
  unfold chk
  by_cases h1 : 1024 < l.length
  · rw [if_pos h1]; constructor
    · intro h; cases h
    · intro h; omega
  · rw [if_neg h1]
    by_cases h2 : Norm l
    · rw [if_pos h2]; exact ⟨fun _ => ⟨by omega, h2⟩, fun _ => rfl⟩
    · rw [if_neg h2]; exact ⟨fun h => (by cases h), fun h => absurd h.2 h2⟩
theorem partsE_zero {l m : List Nat} : partsE l m = 0 ↔ (l.length ≤ 1024 ∧ Norm l) ∧ (m.length ≤ 1024 ∧ Norm m) ∧ m ≠ [] := by
  unfold partsE
  by_cases h1 : chk l = 0
  · rw [if_neg (by simp [h1])]
    by_cases h2 : chk m = 0
    · rw [if_neg (by simp [h2])]
      rw [chk_zero] at h1 h2
      by_cases h3 : m = []
      · rw [if_pos h3]; exact ⟨fun h => (by cases h), fun h => absurd h3 h.2.2⟩
      · rw [if_neg h3]; exact ⟨fun _ => ⟨h1, h2, h3⟩, fun _ => rfl⟩
    · rw [if_pos h2]; exact ⟨fun h => absurd h h2, fun h => absurd (chk_zero.2 h.2.1) h2⟩
  · rw [if_pos h1]; exact ⟨fun h => absurd h h1, fun h => absurd (chk_zero.2 h.1) h1⟩
theorem rchk_zero {s : Bool} {l m : List Nat} : rchk s l m = 0 ↔ partsE l m = 0 ∧ ¬ (l = [] ∧ s = true) ∧ Nat.gcd (val l) (val m) = 1 := by
  unfold rchk
  by_cases h1 : partsE l m = 0
  · rw [if_neg (by simp [h1])]
    by_cases h2 : (l = [] ∧ s = true) ∨ Nat.gcd (val l) (val m) ≠ 1
    · rw [if_pos h2]
      refine ⟨fun h => (by cases h), fun h => ?_⟩
      rcases h2 with h2 | h2
      · exact absurd h2 h.2.1
      · exact absurd h.2.2 h2
    · rw [if_neg h2]
      refine ⟨fun _ => ⟨h1, fun h => h2 (.inl h), ?_⟩, fun _ => rfl⟩
      apply Classical.byContradiction
      intro h; exact h2 (.inr h)
  · rw [if_pos h1]; exact ⟨fun h => absurd h h1, fun h => absurd h.1 h1⟩

def ChkI (S : St) (v : AV) (l : List Nat) (k : Nat) (A : Act') (S' : St) : Prop :=
  A.inr = false ∧ S' = S ∧ ∃ i : Nat, i + k = l.length ∧ tmpV 0 A.F = v ∧ tmpV 8 A.F = v ∧ tmpV 9 A.F = .int .i64 ((l.length : Nat) : Int) ∧ tmpV 10 A.F = .int .i64 (i : Int) ∧ Small (l.take i)

theorem natCheck_spec {S : St} {v : AV} {l : List Nat} (H : Has fns) (h : LimbIs S v l) : wpf fns (.fn 113 [] []) [v] S fun r S' => r = .int .i64 (chk l) ∧ S' = S := by
  have hB : B = 1000000000 := rfl
  refine wpf_fn H.f113 (by simp) ?_
  simp only [↓stU, stD, reduceEqDiff, ↓reduceIte]
  refine wsr ?_
  simp only [↓stU, stD, reduceEqDiff, ↓reduceIte]
  refine wss ?_
  simp only [↓stU, stD, reduceEqDiff, ↓reduceIte, h.len]
  by_cases h1 : 1024 < l.length
  · refine wpc_yes (by simp only [↓stU, stD, reduceEqDiff, ↓reduceIte, decide_eq_true (show (1024 : Int) < ((l.length : Nat) : Int) by omega)]) ?_
    refine wsr ?_
    simp only [↓stU, stD, reduceEqDiff, ↓reduceIte]
    refine wpc_ret ?_
    simp only [↓stU, stD, reduceEqDiff, ↓reduceIte, chk, if_pos h1]
  refine wpc_non (by simp only [↓stU, stD, reduceEqDiff, ↓reduceIte, decide_eq_false (show ¬ (1024 : Int) < ((l.length : Nat) : Int) by omega)]) (wpc_skip ?_)
  simp only [↓stU, stD, reduceEqDiff, ↓reduceIte]
  have bad : ¬ Norm l → chk l = 3 := fun hn => by unfold chk; rw [if_neg h1, if_neg hn]
  refine wss ?_
  simp only [↓stU, stD, reduceEqDiff, ↓reduceIte, h.len]
  refine wpc_mono (Q := fun o A' S' => S' = S ∧ ((o = .normal ∧ A'.inr = false ∧ tmpV 0 A'.F = v ∧ Small l) ∨ (o = .ret ∧ tmpV 2 A'.F = .int .i64 3 ∧ ¬ Norm l))) ?_ ?_
  · refine wpc_block (wpc_loop (ChkI S v l) ?_ l.length _ _ ⟨rfl, rfl, 0, by omega, by simp only [↓stU, stD, reduceEqDiff, ↓reduceIte], by simp only [↓stU, stD, reduceEqDiff, ↓reduceIte], by simp only [↓stU, stD, reduceEqDiff, ↓reduceIte], by simp only [↓stU, stD, reduceEqDiff, ↓reduceIte], by simp [Small]⟩)
    rintro k ⟨F, inr⟩ S' ⟨q0, hS', i, hik, p0, p8, p9, p10, hsm⟩
    simp only at q0 p0 p8 p9 p10
    subst q0
    rw [hS']
    refine wsr ?_
    by_cases hi : i < l.length
    · simp only [↓stU, stD, reduceEqDiff, ↓reduceIte, p9, p10, decide_eq_true (show (i : Int) < ((l.length : Nat) : Int) by omega)]
      refine wpc_seq (wpc_yes (by simp only [↓stU, stD, reduceEqDiff, ↓reduceIte]) (wpc_skip ?_))
      simp only [↓stU, stD, reduceEqDiff, ↓reduceIte]
      have hld := h.ld hi
      rw [List.getD_eq_getElem?_getD] at hld
      have htk : l.take (i + 1) = l.take i ++ [l[i]?.getD 0] := by rw [List.take_add_one, List.getElem?_eq_getElem hi]; rfl
      have hmem : l[i]?.getD 0 ∈ l := by rw [List.getElem?_eq_getElem hi]; exact List.getElem_mem hi
      generalize l[i]?.getD 0 = x at *
      refine wpc_seq (wpc_block (wpc_seq (wpc_reg ?_)))
      simp only [↓stU, stD, reduceEqDiff, ↓reduceIte, p8, p10, h.iaddr hi, hld]
      refine wsr ?_
      simp only [↓stU, stD, reduceEqDiff, ↓reduceIte]
      by_cases hx : 1000000000 ≤ x
      · refine wpc_yes (by simp only [↓stU, stD, reduceEqDiff, ↓reduceIte, decide_eq_true (show (1000000000 : Int) ≤ (x : Int) by omega)]) ?_
        refine wsr ?_
        simp only [↓stU, stD, reduceEqDiff, ↓reduceIte]
        refine wpc_ret ?_
        simp only [↓stU, stD, reduceEqDiff, ↓reduceIte]
        exact .inr fun hn => by have := hn.1 x hmem; omega
      · refine wpc_non (by simp only [↓stU, stD, reduceEqDiff, ↓reduceIte, decide_eq_false (show ¬ (1000000000 : Int) ≤ (x : Int) by omega)]) (wpc_skip ?_)
        simp only [↓stU, stD, reduceEqDiff, ↓reduceIte]
        refine wpc_reg ?_
        have w1 : IntKind.i64.wrap ((i : Int) + 1) = ((i + 1 : Nat) : Int) := by rw [wrap_i64 (by omega) (by omega)]; omega
        simp only [↓stU, stD, reduceEqDiff, ↓reduceIte, p10, w1]
        refine ⟨k - 1, by omega, rfl, rfl, i + 1, by omega, by simp only [↓stU, stD, reduceEqDiff, ↓reduceIte, p0], by simp only [↓stU, stD, reduceEqDiff, ↓reduceIte, p8], by simp only [↓stU, stD, reduceEqDiff, ↓reduceIte, p9], by simp only [↓stU, stD, reduceEqDiff, ↓reduceIte], ?_⟩
        rw [htk]
        exact Small.append.2 ⟨hsm, small_one (by omega)⟩
    · simp only [↓stU, stD, reduceEqDiff, ↓reduceIte, p9, p10, decide_eq_false (show ¬ (i : Int) < ((l.length : Nat) : Int) by omega)]
      refine wpc_seq (wpc_non (by simp only [↓stU, stD, reduceEqDiff, ↓reduceIte]) (wpc_exit ?_))
      simp only [↓stU, stD, reduceEqDiff, ↓reduceIte, p0]
      rw [List.take_of_length_le (by omega)] at hsm
      exact .inl hsm
  rintro o ⟨F, inr⟩ S' ⟨hS', ⟨rfl, q0, p0, hsm⟩ | ⟨rfl, p2, hbad⟩⟩
  · simp only at q0 p0
    subst q0
    rw [hS']
    try simp only [↓stU, stD, reduceEqDiff, ↓reduceIte]
    have hnorm : Norm l ↔ l.getLast? ≠ some 0 := ⟨fun hn => hn.2, fun hn => ⟨hsm, hn⟩⟩
    refine wpc_seq (wpc_seq (wpc_mono (Q := fun o A' S' => o = .normal ∧ S' = S ∧ ∃ b, tmpV 28 A'.F = .bool b ∧ (b = true ↔ ¬ Norm l)) ?_ ?_))
    · refine wpc_reg ?_
      by_cases h0 : l = []
      · subst h0
        simp only [↓stU, stD, reduceEqDiff, ↓reduceIte, p0, h.len]
        exact ⟨false, by simp [norm_nil]⟩
      · have hp := List.length_pos_iff.2 h0
        obtain ⟨j, hj⟩ : ∃ j, l.length = j + 1 := ⟨l.length - 1, by omega⟩
        have hld := h.ld (i := j) (by omega)
        rw [List.getD_eq_getElem?_getD] at hld
        have hlast : l.getLast? = some (l[j]?.getD 0) := by
          rw [List.getLast?_eq_getElem?, hj, Nat.add_sub_cancel, List.getElem?_eq_getElem (by omega)]; rfl
        have w1 : IntKind.i64.wrap (((l.length : Nat) : Int) - 1) = (j : Int) := by rw [wrap_i64 (by omega) (by omega)]; omega
        simp only [↓stU, stD, reduceEqDiff, ↓reduceIte, p0, h.len, decide_eq_true (show (0 : Int) < ((l.length : Nat) : Int) by omega), w1, h.iaddr (show j < l.length by omega), hld]
        refine ⟨decide (((l[j]?.getD 0 : Nat) : Int) = 0), rfl, ?_⟩
        rw [hnorm, hlast]
        simp
    rintro o ⟨F, inr⟩ S' ⟨rfl, hS', b, p28, hb⟩
    simp only at p28
    rw [hS']
    try simp only [↓stU, stD, reduceEqDiff, ↓reduceIte]
    cases b with
    | true =>
      refine wpc_yes (by simp only [↓stU, stD, reduceEqDiff, ↓reduceIte, p28]) ?_
      refine wsr ?_
      simp only [↓stU, stD, reduceEqDiff, ↓reduceIte]
      refine wpc_ret ?_
      simp only [↓stU, stD, reduceEqDiff, ↓reduceIte, bad (hb.1 rfl)]
    | false =>
      refine wpc_non (by simp only [↓stU, stD, reduceEqDiff, ↓reduceIte, p28]) (wpc_skip ?_)
      try simp only [↓stU, stD, reduceEqDiff, ↓reduceIte]
      refine wsr ?_
      simp only [↓stU, stD, reduceEqDiff, ↓reduceIte]
      refine wpc_ret ?_
      have hn : Norm l := Classical.byContradiction fun h => by have := hb.2 h; cases this
      simp only [↓stU, stD, reduceEqDiff, ↓reduceIte, chk_zero.2 ⟨by omega, hn⟩]
  · simp only at p2
    rw [hS']
    simp only [↓stU, stD, reduceEqDiff, ↓reduceIte, p2, bad hbad]

theorem parts_spec {S : St} {a b : AV} {l m : List Nat} (H : Has fns) (ha : LimbIs S a l) (hb : LimbIs S b m) : wpf fns (.fn 74 [] []) [a, b] S fun r S' => r = .int .i64 (partsE l m) ∧ S' = S := by
  refine wpf_fn H.f74 (by simp) ?_
  simp only [↓stU, stD, reduceEqDiff, ↓reduceIte]
  refine wsr ?_
  simp only [↓stU, stD, reduceEqDiff, ↓reduceIte]
  refine wss ?_
  simp only [↓stU, stD, reduceEqDiff, ↓reduceIte]
  refine wpo_call ?_
  simp only [↓stU, stD, reduceEqDiff, ↓reduceIte]
  refine wpf_mono (natCheck_spec H ha) ?_
  rintro _ T ⟨rfl, hT⟩
  rw [hT]
  try simp only [↓stU, stD, reduceEqDiff, ↓reduceIte]
  refine wsr ?_
  simp only [↓stU, stD, reduceEqDiff, ↓reduceIte]
  by_cases h1 : chk l = 0
  · refine wpc_non (by simp only [↓stU, stD, reduceEqDiff, ↓reduceIte, h1]; rfl) (wpc_skip ?_)
    simp only [↓stU, stD, reduceEqDiff, ↓reduceIte]
    refine wss ?_
    simp only [↓stU, stD, reduceEqDiff, ↓reduceIte]
    refine wpo_call ?_
    simp only [↓stU, stD, reduceEqDiff, ↓reduceIte]
    refine wpf_mono (natCheck_spec H hb) ?_
    rintro _ T ⟨rfl, hT⟩
    rw [hT]
    try simp only [↓stU, stD, reduceEqDiff, ↓reduceIte]
    refine wsr ?_
    simp only [↓stU, stD, reduceEqDiff, ↓reduceIte]
    by_cases h2 : chk m = 0
    · refine wpc_non (by simp only [↓stU, stD, reduceEqDiff, ↓reduceIte, h2]; rfl) (wpc_skip ?_)
      simp only [↓stU, stD, reduceEqDiff, ↓reduceIte]
      refine wss ?_
      simp only [↓stU, stD, reduceEqDiff, ↓reduceIte, hb.len]
      by_cases h3 : m = []
      · refine wpc_yes (by simp only [↓stU, stD, reduceEqDiff, ↓reduceIte, h3]; rfl) ?_
        refine wsr ?_
        simp only [↓stU, stD, reduceEqDiff, ↓reduceIte]
        refine wpc_ret ?_
        have e : partsE l m = 6 := by unfold partsE; rw [if_neg (by simp [h1]), if_neg (by simp [h2]), if_pos h3]
        simp only [↓stU, stD, reduceEqDiff, ↓reduceIte, e]
      · have := List.length_pos_iff.2 h3
        refine wpc_non (by simp only [↓stU, stD, reduceEqDiff, ↓reduceIte, decide_eq_false (show ¬ ((m.length : Nat) : Int) = 0 by omega)]) (wpc_skip ?_)
        simp only [↓stU, stD, reduceEqDiff, ↓reduceIte]
        refine wsr ?_
        simp only [↓stU, stD, reduceEqDiff, ↓reduceIte]
        refine wpc_ret ?_
        simp only [↓stU, stD, reduceEqDiff, ↓reduceIte, partsE, h1, h2, h3]
        simp
    · refine wpc_yes (by simp only [↓stU, stD, reduceEqDiff, ↓reduceIte, decide_eq_true (show chk m ≠ 0 from h2)]) ?_
      refine wsr ?_
      simp only [↓stU, stD, reduceEqDiff, ↓reduceIte]
      refine wpc_ret ?_
      simp only [↓stU, stD, reduceEqDiff, ↓reduceIte, partsE, h1]
      simp [h2]
  · refine wpc_yes (by simp only [↓stU, stD, reduceEqDiff, ↓reduceIte, decide_eq_true (show chk l ≠ 0 from h1)]) ?_
    refine wsr ?_
    simp only [↓stU, stD, reduceEqDiff, ↓reduceIte]
    refine wpc_ret ?_
    simp only [↓stU, stD, reduceEqDiff, ↓reduceIte, partsE]
    simp [h1]

/-- a struct of a sign and two lists -/
def RawIs (S : St) (v : AV) (s : Bool) (l m : List Nat) : Prop := ∃ nv dv, v = .agg [.bool s, nv, dv] ∧ LimbIs S nv l ∧ LimbIs S dv m
theorem RawIs.same {S S' : St} {v : AV} {s : Bool} {l m : List Nat} (h : RawIs S v s l m) (hs : Same S S') : RawIs S' v s l m := by
  obtain ⟨nv, dv, h1, h2, h3⟩ := h
  exact ⟨nv, dv, h1, h2.same hs, h3.same hs⟩

theorem check_spec {S : St} {v : AV} {s : Bool} {l m : List Nat} (H : Has fns) (hL : Laid S) (h : RawIs S v s l m) : wpf fns (.fn 31 [] []) [v] S fun r S' => r = .int .i64 (rchk s l m) ∧ Same S S' := by
  obtain ⟨nv, dv, rfl, h1, h2⟩ := h
  refine wpf_fn H.f31 (by simp) ?_
  simp only [↓stU, stD, reduceEqDiff, ↓reduceIte]
  refine wsr ?_
  refine wpo_box (by simp only [↓stU, stD, reduceEqDiff, ↓reduceIte, cells_agg]; rfl) ?_
  intro S1 hS1 hn1 hb1
  simp only [↓stU, stD, reduceEqDiff, ↓reduceIte]
  refine wss ?_
  simp only [↓stU, stD, reduceEqDiff, ↓reduceIte, evQ_faddr, faddr_ptr, ld3_1 hb1, ld3_2 hb1]
  refine wpo_call ?_
  simp only [↓stU, stD, reduceEqDiff, ↓reduceIte]
  refine wpf_mono (parts_spec H (h1.same hS1) (h2.same hS1)) ?_
  rintro _ T ⟨rfl, hT⟩
  rw [hT]
  try simp only [↓stU, stD, reduceEqDiff, ↓reduceIte]
  refine wsr ?_
  simp only [↓stU, stD, reduceEqDiff, ↓reduceIte]
  by_cases hp : partsE l m = 0
  · refine wpc_non (by simp only [↓stU, stD, reduceEqDiff, ↓reduceIte, hp]; rfl) (wpc_skip ?_)
    simp only [↓stU, stD, reduceEqDiff, ↓reduceIte]
    obtain ⟨⟨q1, q2⟩, ⟨q3, q4⟩, q5⟩ := partsE_zero.1 hp
    have n1 : NatIs S nv (val l) := ⟨l, h1, q2, rfl⟩
    have n2 : NatIs S dv (val m) := ⟨m, h2, q4, rfl⟩
    have f1 : Fits (val l) := Fits.of (val_lt q2.1) (by omega)
    have f2 : Fits (val m) := Fits.of (val_lt q4.1) (by omega)
    have hr : rchk s l m = if (l = [] ∧ s = true) ∨ Nat.gcd (val l) (val m) ≠ 1 then 3 else 0 := by unfold rchk; rw [if_neg (by simp [hp])]
    refine wpc_seq (wpc_seq (wpc_mono (Q := fun o A' S' => o = .normal ∧ Same S S' ∧ ∃ b, tmpV 27 A'.F = .bool b ∧ (b = true ↔ (l = [] ∧ s = true) ∨ Nat.gcd (val l) (val m) ≠ 1)) ?_ ?_))
    · refine wpc_reg ?_
      have cop : ∀ (F : Fr), tmpV 20 F = .bool false → tmpV 22 F = nv → tmpV 24 F = dv → ¬ (l = [] ∧ s = true) → wpo fns [⟨(some 25),(.x (.call (.c (.fn 75 [] [])) [(.t 22),(.t 24)])),none,0⟩, ⟨(some 26),(.q (.un .not (.t 25))),(some (20,false)),0⟩, ⟨(some 27),(.q (.pick (.t 20) (.c (.bool true)) (.t 26))),none,0⟩] F S1 (fun F' S' => Same S S' ∧ ∃ b, tmpV 27 F' = .bool b ∧ (b = true ↔ (l = [] ∧ s = true) ∨ Nat.gcd (val l) (val m) ≠ 1)) := by
        intro F p20 p22 p24 hns
        refine wpo_call ?_
        simp only [↓stU, stD, reduceEqDiff, ↓reduceIte, p22, p24]
        refine wpf_mono (coprime_spec H (hL.same hS1) (n1.same hS1) (n2.same hS1) f1 f2) ?_
        rintro _ S2 ⟨rfl, hS2⟩
        simp only [↓stU, stD, reduceEqDiff, ↓reduceIte, p20, un_not]
        refine ⟨hS1.trans hS2, _, rfl, ?_⟩
        simp [hns]
      by_cases h0 : l = []
      · subst h0
        cases s with
        | true =>
          simp only [↓stU, stD, reduceEqDiff, ↓reduceIte, evQ_faddr, faddr_ptr, ld3_0 hb1, ld3_1 hb1, h1.len, List.length_nil, Int.natCast_zero, decide_true]
          exact ⟨hS1, true, rfl, by simp⟩
        | false =>
          simp only [↓stU, stD, reduceEqDiff, ↓reduceIte, evQ_faddr, faddr_ptr, ld3_0 hb1, ld3_1 hb1, ld3_2 hb1, h1.len, List.length_nil, Int.natCast_zero, decide_true]
          refine wpo_mono (cop _ (by simp only [↓stU, stD, reduceEqDiff, ↓reduceIte]) (by simp only [↓stU, stD, reduceEqDiff, ↓reduceIte]) (by simp only [↓stU, stD, reduceEqDiff, ↓reduceIte]) (by simp)) ?_
          rintro F S' ⟨k1, b, k2, k3⟩
          exact ⟨k1, b, k2, by simpa using k3⟩
      · have := List.length_pos_iff.2 h0
        simp only [↓stU, stD, reduceEqDiff, ↓reduceIte, evQ_faddr, faddr_ptr, ld3_0 hb1, ld3_1 hb1, ld3_2 hb1, h1.len, decide_eq_false (show ¬ ((l.length : Nat) : Int) = 0 by omega)]
        exact cop _ (by simp only [↓stU, stD, reduceEqDiff, ↓reduceIte]) (by simp only [↓stU, stD, reduceEqDiff, ↓reduceIte]) (by simp only [↓stU, stD, reduceEqDiff, ↓reduceIte]) (by simp [h0])
    rintro o ⟨F, inr⟩ S' ⟨rfl, hS', b, p27, hb⟩
    simp only at p27
    try simp only [↓stU, stD, reduceEqDiff, ↓reduceIte]
    cases b with
    | true =>
      refine wpc_yes (by simp only [↓stU, stD, reduceEqDiff, ↓reduceIte, p27]) ?_
      refine wsr ?_
      simp only [↓stU, stD, reduceEqDiff, ↓reduceIte]
      refine wpc_ret ?_
      simp only [↓stU, stD, reduceEqDiff, ↓reduceIte, hr, if_pos (hb.1 rfl)]
      exact hS'
    | false =>
      refine wpc_non (by simp only [↓stU, stD, reduceEqDiff, ↓reduceIte, p27]) (wpc_skip ?_)
      try simp only [↓stU, stD, reduceEqDiff, ↓reduceIte]
      refine wsr ?_
      simp only [↓stU, stD, reduceEqDiff, ↓reduceIte]
      refine wpc_ret ?_
      simp only [↓stU, stD, reduceEqDiff, ↓reduceIte, hr, if_neg (fun h => by have := hb.2 h; cases this)]
      exact hS'
  · refine wpc_yes (by simp only [↓stU, stD, reduceEqDiff, ↓reduceIte, decide_eq_true (show partsE l m ≠ 0 from hp)]) ?_
    refine wsr ?_
    simp only [↓stU, stD, reduceEqDiff, ↓reduceIte]
    refine wpc_ret ?_
    have e : rchk s l m = partsE l m := by unfold rchk; rw [if_pos hp]
    simp only [↓stU, stD, reduceEqDiff, ↓reduceIte, e]
    exact hS1
end Go.Ev.Gl

namespace Go.Ev.Gl
variable {fns : T AFn}

/-! ## How long results are -/
def Bnd (k : Nat) (q : Rat) : Prop := q.num.natAbs < B ^ k ∧ q.den < B ^ k
theorem Bnd.mono {k j : Nat} {q : Rat} (h : Bnd k q) (hk : k ≤ j) : Bnd j q := ⟨Nat.lt_of_lt_of_le h.1 (Nat.pow_le_pow_right B_pos hk), Nat.lt_of_lt_of_le h.2 (Nat.pow_le_pow_right B_pos hk)⟩
theorem Bnd.half {k : Nat} {q : Rat} (h : Bnd k q) (hk : k ≤ 20000) : HalfR q := by unfold HalfR Half; exact Bnd.mono (j := 20000) h hk
theorem mkRat_le {n : Int} {d : Nat} (hd : d ≠ 0) : (mkRat n d).num.natAbs ≤ n.natAbs ∧ (mkRat n d).den ≤ d := by
  have hg : 0 < Nat.gcd n.natAbs d := Nat.gcd_pos_of_pos_right _ (by omega)
  rw [← Rat.normalize_eq_mkRat hd, Rat.normalize_eq]
  refine ⟨?_, Nat.div_le_self ..⟩
  simp only
  rw [Int.natAbs_ediv_of_dvd (Int.ofNat_dvd_left.2 (Nat.gcd_dvd_left ..)), Int.natAbs_natCast]
  exact Nat.div_le_self ..
theorem Bnd.mul {i j : Nat} {p q : Rat} (hp : Bnd i p) (hq : Bnd j q) : Bnd (i + j) (p * q) := by
  rw [Rat.mul_def']
  obtain ⟨h1, h2⟩ := mkRat_le (n := p.num * q.num) (Nat.mul_ne_zero p.den_nz q.den_nz)
  rw [Int.natAbs_mul] at h1
  exact ⟨Nat.lt_of_le_of_lt h1 (mul_lt_pow hp.1 hq.1), Nat.lt_of_le_of_lt h2 (mul_lt_pow hp.2 hq.2)⟩
theorem Bnd.add {i j : Nat} {p q : Rat} (hp : Bnd i p) (hq : Bnd j q) : Bnd (i + j + 1) (p + q) := by
  rw [Rat.add_def']
  obtain ⟨h1, h2⟩ := mkRat_le (n := p.num * q.den + q.num * p.den) (Nat.mul_ne_zero p.den_nz q.den_nz)
  have h3 := Int.natAbs_add_le (p.num * q.den) (q.num * p.den)
  rw [Int.natAbs_mul, Int.natAbs_mul, Int.natAbs_natCast, Int.natAbs_natCast] at h3
  refine ⟨Nat.lt_of_le_of_lt (Nat.le_trans h1 h3) (add_lt_pow (mul_lt_pow hp.1 hq.2) (by rw [Nat.add_comm]; exact mul_lt_pow hq.1 hp.2)), Nat.lt_of_le_of_lt h2 (Nat.lt_of_lt_of_le (mul_lt_pow hp.2 hq.2) (Nat.pow_le_pow_right B_pos (by omega)))⟩
theorem Bnd.neg {i : Nat} {p : Rat} (hp : Bnd i p) : Bnd i (-p) := by
  unfold Bnd; rw [Rat.neg_num, Rat.neg_den, Int.natAbs_neg]; exact hp
/-! ## A block that is laid late -/
section
variable {W : Nat → Prop} {h0 : T AB} {base : Nat} {d : Option Nat} {m i : Nat} {l : List AO} {F : Fr} {S : St} {last : Option Nat} {Q : Fr → St → List Pend → Prop}
theorem flush_one {j id : Nat} {bl : AB} {h : T AB} (ht : Nat.testBit m j = true) : flush m [⟨j, id, bl⟩] h = ([], h.set id (some bl)) := by
  unfold flush
  rw [show Nat.testBit m (Pend.mk j id bl).i = true from ht, bsel_true]
  rfl
end

/-! ## Structs of two numbers -/
theorem noInt_rat {S : St} {x y z : AV} {q : Rat} (h : RatIs S (.agg [x, y, z]) q) : noInt [x, y, z] = true := by
  obtain ⟨nv, dv, he, h1, h2⟩ := h
  cases he
  obtain ⟨l, k1, _⟩ := h1
  obtain ⟨m, k2, _⟩ := h2
  have e1 : ∀ {S : St} {v : AV} {l : List Nat}, LimbIs S v l → ∀ r, noInt (v :: r) = noInt r := fun h r => by
    rcases h with ⟨_, h | h⟩ | ⟨_, _, _, _, _, h, _⟩ <;> subst h <;> rfl
  show noInt (y :: [z]) = true
  rw [e1 k1, e1 k2]
  rfl

/-! ## The product of a pair -/
theorem bounded_spec {S : St} {x y z : AV} {q : Rat} (H : Has fns) (h : RatIs S (.agg [x, y, z]) q) (hq : InBound q) : wpf fns (.fn 52 [] []) [.agg [x, y, z]] S fun r S' => r = .tup [.agg [x, y, z], .int .i64 0] ∧ RatIs S' (.agg [x, y, z]) q ∧ Same S S' := by
  refine wpf_fn H.f52 (by simp) ?_
  simp only [↓stU, stD, reduceEqDiff, ↓reduceIte]
  refine wsr ?_
  refine wpo_box (by simp only [↓stU, stD, reduceEqDiff, ↓reduceIte, cells_agg]; rfl) ?_
  intro S1 hS1 hn1 hb1
  refine wpo_alloc ?_
  intro S2 hS2 hn2 hb2
  simp only [↓stU, stD, reduceEqDiff, ↓reduceIte]
  have hS := hS1.trans hS2
  have g1 : S2.h.get S.nx = some (.cells [x, y, z] false 0) := by rw [hS2.2 _ (by omega)]; exact hb1
  refine wss ?_
  simp only [↓stU, stD, reduceEqDiff, ↓reduceIte, ld3 g1]
  refine wpo_call ?_
  simp only [↓stU, stD, reduceEqDiff, ↓reduceIte]
  refine wpf_mono (fits_spec H (h.same hS)) ?_
  rintro _ S3 ⟨bb, rfl, hbb, hS3⟩
  have : bb = true := hbb.2 hq
  subst this
  simp only [↓stU, stD, reduceEqDiff, ↓reduceIte, un_not, Bool.not_true]
  refine wpc_non (by simp only [↓stU, stD, reduceEqDiff, ↓reduceIte]) (wpc_skip ?_)
  simp only [↓stU, stD, reduceEqDiff, ↓reduceIte]
  have g1' : S3.h.get S.nx = some (.cells [x, y, z] false 0) := by rw [hS3.2 _ (by omega)]; exact g1
  have g2' : S3.h.get S1.nx = some (.cells [.bool false, .nilsl, .nilsl] false 0) := by rw [hS3.2 _ (by omega)]; exact hb2
  refine wsr ?_
  simp only [↓stU, stD, reduceEqDiff, ↓reduceIte, ld3 g1']
  refine wpo_st (b := S1.nx) (by simp only [↓stU, stD, reduceEqDiff, ↓reduceIte]) (by simp only [↓stU, stD, reduceEqDiff, ↓reduceIte, cells_agg]; rfl) g2' rfl rfl ?_
  intro S4 hS4 hn4 hb4
  simp only [↓stU, stD, reduceEqDiff, ↓reduceIte]
  refine wpc_ret ?_
  simp only [↓stU, stD, reduceEqDiff, ↓reduceIte, results_cell, ld3 hb4]
  exact ⟨(h.same (hS.trans hS3)).st g2' rfl hS4 hb4, hS4.same (hS.trans hS3) (by omega)⟩
end Go.Ev.Gl

namespace Go.Ev.Gl
variable {fns : T AFn}

/-- a number that Check accepts -/
theorem RatIs.raw {S : St} {v : AV} {q : Rat} (h : RatIs S v q) (hq : InBound q) : ∃ s l m, RawIs S v s l m ∧ rchk s l m = 0 := by
  obtain ⟨nv, dv, rfl, ⟨l1, i1, j1, v1⟩, ⟨l2, i2, j2, v2⟩⟩ := h
  refine ⟨_, l1, l2, ⟨nv, dv, rfl, i1, i2⟩, rchk_zero.2 ⟨partsE_zero.2 ⟨⟨(norm_len_iff j1 _).2 (by rw [v1]; exact hq.1), j1⟩, ⟨(norm_len_iff j2 _).2 (by rw [v2]; exact hq.2), j2⟩, ?_⟩, ?_, ?_⟩⟩
  · rintro rfl
    rw [val_nil] at v2
    exact q.den_nz v2.symm
  · rintro ⟨h1, h2⟩
    subst h1
    rw [val_nil] at v1
    have := of_decide_eq_true h2
    omega
  · rw [v1, v2]; exact q.reduced

theorem check_ok {S : St} {a : AV} {p : Rat} (H : Has fns) (hL : Laid S) (ha : RatIs S a p) (hp : InBound p) : wpf fns (.fn 31 [] []) [a] S fun r S' => r = .int .i64 0 ∧ Same S S' := by
  obtain ⟨s, l, m, h1, h2⟩ := ha.raw hp
  refine wpf_mono (check_spec H hL h1) ?_
  rintro r S' ⟨rfl, hS⟩
  rw [h2]
  exact ⟨rfl, hS⟩
end Go.Ev.Gl

namespace Go.Ev.Gl
variable {fns : T AFn}

theorem wpo_al {d m : Nat} {a : AlOp} {l : List AO} {F : Fr} {S : St} {Q : Fr → St → Prop} {v : AV} {bl : AB} (he : evA a F S.nx = some (v, bl)) (h : ∀ S1, Same S S1 → S1.nx = S.nx + 1 → S1.h.get S.nx = some bl → wpo fns l (putF (some d) F v) S1 Q) : wpo fns (⟨some d, .a a, none, m⟩ :: l) F S Q := by
  rw [wpo_aE]
  refine ⟨(v, bl), he, h _ (Same.alloc S _) rfl ?_⟩
  simp only
  rw [T.get_set, if_pos rfl]

theorem InBound.half {q : Rat} (h : InBound q) : HalfR q := Bnd.half (k := 1024) h (by decide)
theorem one_lt_B (k : Nat) (hk : k ≠ 0) : 1 < B ^ k := Nat.one_lt_pow hk (by decide)
theorem self_rat {S : St} {v : AV} {q : Rat} (h : RatIs S v q) : sameV v v = true := by
  obtain ⟨nv, dv, rfl, h1, h2⟩ := h
  exact agg_self (same_bool _) (nat_self h1) (nat_self h2)

theorem make_spec {S : St} {neg : Bool} {a b : AV} {x y : Nat} (H : Has fns) (hL : Laid S) (ha : NatIs S a x) (hb : NatIs S b y) (hx : x < B ^ 1024) (hy : y < B ^ 1024) (hy0 : 0 < y) : wpf fns (.fn 41 [] []) [.bool neg, a, b] S fun r S' => ∃ v, r = .tup [v, .int .i64 0] ∧ RatIs S' v (mkRat (sg neg x) y) ∧ Same S S' := by
  obtain ⟨l, ha1, hl, hlx⟩ := id ha
  obtain ⟨m, hb1, hm, hmy⟩ := id hb
  have hp : partsE l m = 0 := partsE_zero.2 ⟨⟨(norm_len_iff hl _).2 (by rw [hlx]; exact hx), hl⟩, ⟨(norm_len_iff hm _).2 (by rw [hmy]; exact hy), hm⟩, by rintro rfl; rw [val_nil] at hmy; omega⟩
  refine wpf_fn H.f41 (by simp) ?_
  simp only [↓stU, stD, reduceEqDiff, ↓reduceIte]
  refine wsr ?_
  refine wpo_alloc ?_
  intro S1 hS1 hn1 hb1'
  simp only [↓stU, stD, reduceEqDiff, ↓reduceIte]
  refine wss ?_
  simp only [↓stU, stD, reduceEqDiff, ↓reduceIte]
  refine wpo_call ?_
  simp only [↓stU, stD, reduceEqDiff, ↓reduceIte]
  refine wpf_mono (parts_spec H (ha1.same hS1) (hb1.same hS1)) ?_
  rintro _ T ⟨rfl, hT⟩
  rw [hT, hp]
  try simp only [↓stU, stD, reduceEqDiff, ↓reduceIte]
  refine wsr ?_
  simp only [↓stU, stD, reduceEqDiff, ↓reduceIte]
  refine wpc_non (by simp only [↓stU, stD, reduceEqDiff, ↓reduceIte]; rfl) (wpc_skip ?_)
  simp only [↓stU, stD, reduceEqDiff, ↓reduceIte]
  refine wsr ?_
  simp only [↓stU, stD, reduceEqDiff, ↓reduceIte]
  refine wpo_call ?_
  simp only [↓stU, stD, reduceEqDiff, ↓reduceIte]
  refine wpf_mono (ratio_spec H (hL.same hS1) (ha.same hS1) (hb.same hS1) (Fits.of hx (by decide)) (Fits.of hy (by decide)) hy0) ?_
  rintro v S2 ⟨hv, hS2⟩
  obtain ⟨c0, c1, c2, rfl⟩ := hv.cells
  have g2 : S2.h.get S.nx = some (.cells [.bool false, .nilsl, .nilsl] false 0) := by rw [hS2.2 _ (by omega)]; exact hb1'
  refine wpo_st (b := S.nx) (by simp only [↓stU, stD, reduceEqDiff, ↓reduceIte]) (by simp only [↓stU, stD, reduceEqDiff, ↓reduceIte, cells_agg]; rfl) g2 rfl rfl ?_
  intro S3 hS3 hn3 hb3
  simp only [↓stU, stD, reduceEqDiff, ↓reduceIte]
  refine wpc_ret ?_
  simp only [↓stU, stD, reduceEqDiff, ↓reduceIte, results_cell, ld3 hb3]
  exact ⟨_, rfl, hv.st g2 rfl hS3 hb3, hS3.same (hS1.trans hS2) (Nat.le_refl _)⟩

end Go.Ev.Gl

namespace Go.Ev.Gl
variable {fns : T AFn}

/-! ## The rules, with what lies beyond the last block -/
/-! ## Signs -/
end Go.Ev.Gl

namespace Go.Ev.Gl
variable {fns : T AFn}

/-! ## The statements' own tools -/
theorem bin_rem_nat (e : EqT) (k : IntKind) {t d : Nat} (hd : 0 < d) : binV .rem e (.int k ((t : Nat) : Int)) (.int k ((d : Nat) : Int)) = some (.int k ((t % d : Nat) : Int)) := by
  show intsBin .rem k (Int.ofNat t) k (Int.ofNat d) = _
  unfold intsBin
  rw [show isShift .rem = false from rfl, bsel_false, keq_refl, bsel_true]
  show bsel (Nat.beq d 0) none (some (AV.int k (.ofNat (t % d)))) = _
  have h0 : Nat.beq d 0 = false := by rw [Bool.eq_false_iff]; intro h; rw [Nat.beq_eq] at h; omega
  rw [h0, bsel_false]
  rfl
def AlikeI (S : St) (a b : AV) (l m : List Nat) (k : Nat) (A : Act') (S' : St) : Prop :=
  A.inr = false ∧ S'.h = S.h ∧ S.nx ≤ S'.nx ∧ ∃ i : Nat, i + k = l.length ∧ tmpV 0 A.F = a ∧ tmpV 1 A.F = b ∧ tmpV 5 A.F = .int .i64 (i : Int) ∧ l.take i = m.take i

theorem same_of_h {S S' : St} (h1 : S'.h = S.h) (h2 : S.nx ≤ S'.nx) : Same S S' := ⟨h2, fun _ _ => by rw [h1]⟩

theorem alike_spec {S : St} {a b : AV} {l m : List Nat} (H : Has fns) (ha : LimbIs S a l) (hb : LimbIs S b m) (hl : l.length ≤ 1000000) : wpf fns (.fn 38 [] []) [a, b] S fun r S' => r = .bool (decide (l = m)) ∧ Same S S' := by
  refine wpf_fn H.f38 (by simp) ?_
  simp only [↓stU, stD, reduceEqDiff, ↓reduceIte]
  refine wsr ?_
  simp only [↓stU, stD, reduceEqDiff, ↓reduceIte]
  refine wss ?_
  simp only [↓stU, stD, reduceEqDiff, ↓reduceIte, ha.len, hb.len]
  by_cases hlen : l.length = m.length
  · refine wpc_non (by simp only [↓stU, stD, reduceEqDiff, ↓reduceIte, decide_eq_false (show ¬ ((l.length : Nat) : Int) ≠ ((m.length : Nat) : Int) by omega)]) (wpc_skip ?_)
    simp only [↓stU, stD, reduceEqDiff, ↓reduceIte]
    refine wss ?_
    simp only [↓stU, stD, reduceEqDiff, ↓reduceIte]
    refine wpc_mono (Q := fun o A' S' => Same S S' ∧ ((o = .normal ∧ l = m) ∨ (o = .ret ∧ tmpV 4 A'.F = .bool false ∧ l ≠ m))) ?_ ?_
    · refine wpc_block (wpc_loop (AlikeI S a b l m) ?_ l.length _ _ ⟨rfl, rfl, Nat.le_refl _, 0, by omega, by simp only [↓stU, stD, reduceEqDiff, ↓reduceIte], by simp only [↓stU, stD, reduceEqDiff, ↓reduceIte], by simp only [↓stU, stD, reduceEqDiff, ↓reduceIte], by simp⟩)
      rintro k ⟨F, inr⟩ S' ⟨q0, hh, hnx, i, hik, p0, p1, p5, htk⟩
      simp only at q0 p0 p1 p5
      subst q0
      have hS := same_of_h hh hnx
      have ha' := ha.same hS
      have hb' := hb.same hS
      refine wss ?_
      simp only [↓stU, stD, reduceEqDiff, ↓reduceIte, p0, p5, ha.len]
      by_cases hi : i < l.length
      · refine wpc_yes (by simp only [↓stU, stD, reduceEqDiff, ↓reduceIte, decide_eq_true (show (i : Int) < ((l.length : Nat) : Int) by omega)]) (wpc_skip ?_)
        simp only [↓stU, stD, reduceEqDiff, ↓reduceIte]
        have l1 := ha'.ld hi
        have l2 := hb'.ld (i := i) (by omega)
        rw [List.getD_eq_getElem?_getD] at l1 l2
        have t1 : l.take (i + 1) = l.take i ++ [l[i]?.getD 0] := by rw [List.take_add_one, List.getElem?_eq_getElem hi]; rfl
        have t2 : m.take (i + 1) = m.take i ++ [m[i]?.getD 0] := by rw [List.take_add_one, List.getElem?_eq_getElem (by omega : i < m.length)]; rfl
        refine wpc_seq (wpc_block (wpc_seq (wpc_drq ?_)))
        simp only [↓stU, stD, reduceEqDiff, ↓reduceIte, ↓stV, stW, Nat.reduceAdd, p0, p1, p5, ha.iaddr hi, hb.iaddr (show i < m.length by omega), l1, l2]
        by_cases hxy : l[i]?.getD 0 = m[i]?.getD 0
        · refine wpc_non (by simp only [↓stU, stD, reduceEqDiff, ↓reduceIte, hxy]; simp) (wpc_skip ?_)
          simp only [↓stU, stD, reduceEqDiff, ↓reduceIte]
          refine wpc_reg ?_
          have w1 : IntKind.i64.wrap ((i : Int) + 1) = ((i + 1 : Nat) : Int) := by rw [wrap_i64 (by omega) (by omega)]; omega
          simp only [↓stU, stD, reduceEqDiff, ↓reduceIte, p5, w1]
          exact ⟨k - 1, by omega, rfl, hh, by simp; omega, i + 1, by omega, by simp only [↓stU, stD, reduceEqDiff, ↓reduceIte, p0], by simp only [↓stU, stD, reduceEqDiff, ↓reduceIte, p1], by simp only [↓stU, stD, reduceEqDiff, ↓reduceIte], by rw [t1, t2, htk, hxy]⟩
        · refine wpc_yes (by simp only [↓stU, stD, reduceEqDiff, ↓reduceIte]; simp; omega) ?_
          refine wsr ?_
          simp only [↓stU, stD, reduceEqDiff, ↓reduceIte]
          refine wpc_ret ?_
          simp only [↓stU, stD, reduceEqDiff, ↓reduceIte]
          exact ⟨hS.trans (Same.nx S' _), .inr (by rintro rfl; exact hxy rfl)⟩
      · refine wpc_non (by simp only [↓stU, stD, reduceEqDiff, ↓reduceIte, decide_eq_false (show ¬ (i : Int) < ((l.length : Nat) : Int) by omega)]) (wpc_exit ?_)
        simp only [↓stU, stD, reduceEqDiff, ↓reduceIte]
        rw [List.take_of_length_le (by omega), List.take_of_length_le (by omega)] at htk
        exact ⟨hS, .inl htk⟩
    rintro o ⟨F, inr⟩ S' ⟨hS, ⟨rfl, he⟩ | ⟨rfl, p4, hne⟩⟩
    · simp only [↓stU, stD, reduceEqDiff, ↓reduceIte]
      refine wsr ?_
      simp only [↓stU, stD, reduceEqDiff, ↓reduceIte]
      refine wpc_ret ?_
      simp only [↓stU, stD, reduceEqDiff, ↓reduceIte, decide_eq_true he]
      exact hS
    · simp only at p4
      simp only [↓stU, stD, reduceEqDiff, ↓reduceIte, p4, decide_eq_false hne]
      exact hS
  · refine wpc_yes (by simp only [↓stU, stD, reduceEqDiff, ↓reduceIte, decide_eq_true (show ((l.length : Nat) : Int) ≠ ((m.length : Nat) : Int) by omega)]) ?_
    refine wsr ?_
    simp only [↓stU, stD, reduceEqDiff, ↓reduceIte]
    refine wpc_ret ?_
    have : ¬ l = m := by rintro rfl; exact hlen rfl
    simp only [↓stU, stD, reduceEqDiff, ↓reduceIte, decide_eq_false this]
    exact Same.refl _

theorem alike_nat {S : St} {a b : AV} {x y : Nat} (H : Has fns) (ha : NatIs S a x) (hb : NatIs S b y) (hx : Fits x) : wpf fns (.fn 38 [] []) [a, b] S fun r S' => r = .bool (decide (x = y)) ∧ Same S S' := by
  obtain ⟨l, h1, h2, h3⟩ := ha
  obtain ⟨m, k1, k2, k3⟩ := hb
  have := Fits.len h2 (by rw [h3]; exact hx)
  refine wpf_mono (alike_spec H h1 k1 (by omega)) ?_
  rintro r S' ⟨rfl, hS⟩
  refine ⟨?_, hS⟩
  congr 1
  apply decide_eq_decide.2
  rw [← h3, ← k3]
  exact ⟨fun h => by rw [h], fun h => norm_inj h2 k2 h⟩

theorem rat_eq_iff (p q : Rat) : p = q ↔ (decide (p.num < 0) = decide (q.num < 0)) ∧ p.num.natAbs = q.num.natAbs ∧ p.den = q.den := by
  constructor
  · rintro rfl; exact ⟨rfl, rfl, rfl⟩
  · rintro ⟨h1, h2, h3⟩
    have : p.num = q.num := by rw [← sg_num p, ← sg_num q, h1, h2]
    exact Rat.ext this h3

theorem sameRat_spec {S : St} {a b : AV} {p q : Rat} (H : Has fns) (ha : RatIs S a p) (hb : RatIs S b q) (hp : FitsR p) : wpf fns (.fn 14 [] []) [a, b] S fun r S' => r = .bool (decide (p = q)) ∧ Same S S' := by
  obtain ⟨nv, dv, rfl, h1, h2⟩ := ha
  obtain ⟨mv, ev, rfl, h3, h4⟩ := hb
  refine wpf_fn H.f14 (by simp) ?_
  simp only [↓stU, stD, reduceEqDiff, ↓reduceIte]
  refine wsr ?_
  refine wpo_box (by simp only [↓stU, stD, reduceEqDiff, ↓reduceIte, cells_agg]; rfl) ?_
  intro S1 hS1 hn1 hb1
  refine wpo_box (by simp only [↓stU, stD, reduceEqDiff, ↓reduceIte, cells_agg]; rfl) ?_
  intro S2 hS2 hn2 hb2
  simp only [↓stU, stD, reduceEqDiff, ↓reduceIte]
  have hS := hS1.trans hS2
  have g1 : S2.h.get S.nx = some (.cells [.bool (decide (p.num < 0)), nv, dv] false 0) := by rw [hS2.2 _ (by omega)]; exact hb1
  have hpq := rat_eq_iff p q
  refine wpc_seq (wpc_mono (Q := fun o A' S' => o = .normal ∧ Same S S' ∧ tmpV 4 A'.F = .bool (decide (p = q))) ?_ ?_)
  · refine wpc_reg ?_
    by_cases e1 : decide (p.num < 0) = decide (q.num < 0)
    · simp only [↓stU, stD, reduceEqDiff, ↓reduceIte, evQ_faddr, faddr_ptr, ld3_0 g1, ld3_0 hb2, ld3_1 g1, ld3_1 hb2, eq_bool, e1, beq_self_eq_true]
      refine wpo_call ?_
      simp only [↓stU, stD, reduceEqDiff, ↓reduceIte]
      refine wpf_mono (alike_nat H (h1.same hS) (h3.same hS) hp.1) ?_
      rintro _ S3 ⟨rfl, hS3⟩
      have g1' : S3.h.get S.nx = some (.cells [.bool (decide (p.num < 0)), nv, dv] false 0) := by rw [hS3.2 _ (by omega)]; exact g1
      have g2' : S3.h.get S1.nx = some (.cells [.bool (decide (q.num < 0)), mv, ev] false 0) := by rw [hS3.2 _ (by omega)]; exact hb2
      by_cases e2 : p.num.natAbs = q.num.natAbs
      · simp only [↓stU, stD, reduceEqDiff, ↓reduceIte, decide_eq_true e2, evQ_faddr, faddr_ptr, ld3_2 g1', ld3_2 g2']
        refine wpo_call ?_
        simp only [↓stU, stD, reduceEqDiff, ↓reduceIte]
        refine wpf_mono (alike_nat H (h2.same (hS.trans hS3)) (h4.same (hS.trans hS3)) hp.2) ?_
        rintro _ S4 ⟨rfl, hS4⟩
        try simp only [↓stU, stD, reduceEqDiff, ↓reduceIte]
        refine ⟨hS.trans (hS3.trans hS4), ?_⟩
        congr 1
        exact decide_eq_decide.2 ⟨fun h => hpq.2 ⟨e1, e2, h⟩, fun h => by rw [h]⟩
      · simp only [↓stU, stD, reduceEqDiff, ↓reduceIte, decide_eq_false e2]
        refine ⟨hS.trans hS3, ?_⟩
        rw [decide_eq_false (fun h => e2 (hpq.1 h).2.1)]
    · have : (decide (p.num < 0) == decide (q.num < 0)) = false := by simpa using e1
      simp only [↓stU, stD, reduceEqDiff, ↓reduceIte, evQ_faddr, faddr_ptr, ld3_0 g1, ld3_0 hb2, eq_bool, this]
      refine ⟨hS, ?_⟩
      rw [decide_eq_false (fun h => e1 (hpq.1 h).1)]
  · rintro o ⟨F, inr⟩ S' ⟨rfl, hS, p4⟩
    simp only at p4
    simp only [↓stU, stD, reduceEqDiff, ↓reduceIte]
    refine wpc_ret ?_
    simp only [↓stU, stD, reduceEqDiff, ↓reduceIte, p4]
    exact hS
end Go.Ev.Gl

namespace Go.Ev.Gl
variable {fns : T AFn}

theorem remB32 (e : EqT) (t : Nat) : binV .rem e (.int .u32 ((t : Nat) : Int)) (.int .u32 1000000000) = some (.int .u32 ((t % B : Nat) : Int)) := bin_rem_nat e .u32 B_pos

end Go.Ev.Gl

namespace Go.Ev.Gl
variable {fns : T AFn}

theorem Bnd.inBound {k : Nat} {q : Rat} (h : Bnd k q) (hk : k ≤ 1024) : InBound q := by unfold InBound; exact Bnd.mono (j := 1024) h hk

end Go.Ev.Gl

namespace Go.Ev.Gl
variable {fns : T AFn}

/-! ## Comparing -/
theorem den_pos (q : Rat) : (0 : Int) < q.den := by have := q.den_nz; omega

end Go.Ev.Gl

namespace Go.Ev.Gl
variable {fns : T AFn}

/-! ## The whole numbers below and above -/
def dn (neg : Bool) (x y : Nat) : Nat := if neg = true ∧ x % y ≠ 0 then x / y + 1 else x / y
def flr (q : Rat) : Int := q.num / q.den
def cel (q : Rat) : Int := -(-q.num / q.den)

theorem dn_down {x y : Nat} (hy : 0 < y) : -(dn true x y : Int) = (-(x : Int)) / y := by
  have h := Nat.div_add_mod x y
  have hr := Nat.mod_lt x hy
  have h2 : ((y : Int) * (x / y : Nat)) + ((x % y : Nat) : Int) = x := by
    have : (((y * (x / y) + x % y : Nat)) : Int) = (x : Int) := by rw [h]
    rw [Int.natCast_add, Int.natCast_mul] at this
    exact this
  unfold dn
  by_cases h0 : x % y = 0
  · rw [if_neg (fun h => h.2 h0)]
    generalize x / y = d at *
    exact ((Int.ediv_emod_unique (a := -(x : Int)) (b := y) (r := 0) (q := -(d : Int)) (by omega)).2 ⟨by rw [Int.mul_neg]; omega, by omega, by omega⟩).1.symm
  · rw [if_pos ⟨rfl, h0⟩]
    generalize x / y = d at *
    refine ((Int.ediv_emod_unique (a := -(x : Int)) (b := y) (r := (y : Int) - (x % y : Nat)) (q := -((d + 1 : Nat) : Int)) (by omega)).2 ⟨?_, by omega, by omega⟩).1.symm
    rw [Int.mul_neg, Int.natCast_add, Int.mul_add]
    omega
theorem dn_up (x y : Nat) : dn false x y = x / y := by unfold dn; rw [if_neg (fun h => by cases h.1)]

theorem floor_sg (q : Rat) : sg (decide (q.num < 0)) (dn (decide (q.num < 0)) q.num.natAbs q.den) = flr q := by
  have hd : 0 < q.den := by have := q.den_nz; omega
  unfold flr
  by_cases h : q.num < 0
  · rw [decide_eq_true h]
    show -(dn true q.num.natAbs q.den : Int) = _
    rw [dn_down hd, show -((q.num.natAbs : Nat) : Int) = q.num by omega]
  · rw [decide_eq_false h, dn_up]
    show ((q.num.natAbs / q.den : Nat) : Int) = _
    rw [Int.natCast_ediv, show ((q.num.natAbs : Nat) : Int) = q.num by omega]
theorem ceil_sg (q : Rat) : sg (decide (q.num < 0)) (dn (!decide (q.num < 0)) q.num.natAbs q.den) = cel q := by
  have hd : 0 < q.den := by have := q.den_nz; omega
  unfold cel
  by_cases h : q.num < 0
  · rw [decide_eq_true h]
    show -(dn false q.num.natAbs q.den : Int) = _
    rw [dn_up, Int.natCast_ediv, show ((q.num.natAbs : Nat) : Int) = -q.num by omega]
  · rw [decide_eq_false h]
    show (dn true q.num.natAbs q.den : Int) = _
    have := dn_down (x := q.num.natAbs) hd
    rw [show ((q.num.natAbs : Nat) : Int) = q.num by omega] at this
    omega

theorem dn_le (neg : Bool) (x y : Nat) : dn neg x y ≤ x + 1 := by
  have := Nat.div_le_self x y
  unfold dn
  split <;> omega
theorem dn_lt {neg : Bool} {x y k : Nat} (hx : x < B ^ k) : dn neg x y < B ^ (k + 1) := by
  have h1 := dn_le neg x y
  have h2 : B ^ k < B ^ (k + 1) := Nat.pow_lt_pow_right (by decide) (by omega)
  omega
theorem dn_fit {neg : Bool} {x y : Nat} (hx : x < B ^ 1024) : Fits (dn neg x y) := Fits.of (dn_lt hx) (by decide)

theorem down_spec {S : St} {neg : Bool} {a b : AV} {x y : Nat} (H : Has fns) (ha : NatIs S a x) (hb : NatIs S b y) (hx : Fits x) (hy0 : 0 < y) :
    wpf fns (.fn 79 [] []) [.bool neg, a, b] S fun r S' => ∃ v, r = .tup [.bool neg, v] ∧ NatIs S' v (dn neg x y) ∧ Same S S' := by
  refine wpf_fn H.f79 (by simp) ?_
  simp only [↓stU, stD, reduceEqDiff, ↓reduceIte]
  refine wsr ?_
  simp only [↓stU, stD, reduceEqDiff, ↓reduceIte]
  refine wsr ?_
  simp only [↓stU, stD, reduceEqDiff, ↓reduceIte]
  refine wpo_call ?_
  simp only [↓stU, stD, reduceEqDiff, ↓reduceIte]
  refine wpf_mono (div_spec H ha hb hx hy0) ?_
  rintro _ S1 ⟨qv, rv, rfl, hq, hr, hS1⟩
  simp only [↓stU, stD, reduceEqDiff, ↓reduceIte, ex0, ex1]
  obtain ⟨lr, hr1, hr2, hr3⟩ := id hr
  have hlen : 0 < lr.length ↔ x % y ≠ 0 := by
    rw [← hr3]
    constructor
    · intro h h0
      have := norm_low hr2 (by rintro rfl; simp at h)
      have := Nat.pow_pos (n := lr.length - 1) B_pos
      omega
    · intro h
      rcases Nat.eq_zero_or_pos lr.length with h0 | h0
      · exact absurd (by rw [List.eq_nil_of_length_eq_zero h0]; rfl) h
      · exact h0
  refine wpc_seq (wpc_seq (wpc_mono (Q := fun o A' S' => o = .normal ∧ S' = S1 ∧ A'.inr = false ∧ tmpV 0 A'.F = .bool neg ∧ tmpV 8 A'.F = qv ∧ tmpV 21 A'.F = .bool (decide (neg = true ∧ x % y ≠ 0))) ?_ ?_))
  · refine wpc_reg ?_
    cases neg with
    | true =>
      by_cases h0 : x % y = 0
      · have : ¬ 0 < lr.length := fun h => hlen.1 h h0
        have d1 : decide ((0 : Int) < ((lr.length : Nat) : Int)) = false := decide_eq_false (by omega)
        simp only [↓stU, stD, reduceEqDiff, ↓reduceIte, hr1.len, d1]
        simp [h0]
      · have := hlen.2 h0
        have d1 : decide ((0 : Int) < ((lr.length : Nat) : Int)) = true := decide_eq_true (by omega)
        simp only [↓stU, stD, reduceEqDiff, ↓reduceIte, hr1.len, d1]
        simp [h0]
    | false =>
      simp only [↓stU, stD, reduceEqDiff, ↓reduceIte]
      simp
  rintro o ⟨F, inr⟩ T ⟨rfl, hT, q0, p0, p8, p21⟩
  simp only at q0 p0 p8 p21
  subst q0
  rw [hT]
  try simp only [↓stU, stD, reduceEqDiff, ↓reduceIte]
  by_cases hc : neg = true ∧ x % y ≠ 0
  · refine wpc_yes (by simp only [↓stU, stD, reduceEqDiff, ↓reduceIte, p21, decide_eq_true hc]) ?_
    refine wpc_reg ?_
    simp only [↓stU, stD, reduceEqDiff, ↓reduceIte, p8]
    refine wpo_call ?_
    simp only [↓stU, stD, reduceEqDiff, ↓reduceIte]
    refine wpf_mono (one_spec H.f66) ?_
    rintro ov S2 ⟨ho, hS2⟩
    try simp only [↓stU, stD, reduceEqDiff, ↓reduceIte]
    refine wpo_call ?_
    simp only [↓stU, stD, reduceEqDiff, ↓reduceIte]
    refine wpf_mono (add_spec H.f99 (hq.same hS2) ho (hx.mono (Nat.div_le_self ..)) (Fits.of (i := 1) (by decide) (by decide))) ?_
    rintro sv S3 ⟨hs, hS3⟩
    try simp only [↓stU, stD, reduceEqDiff, ↓reduceIte]
    refine wsr ?_
    simp only [↓stU, stD, reduceEqDiff, ↓reduceIte, p0]
    refine wpc_ret ?_
    simp only [↓stU, stD, reduceEqDiff, ↓reduceIte]
    refine ⟨_, rfl, ?_, hS1.trans (hS2.trans hS3)⟩
    unfold dn
    rw [if_pos hc]
    exact hs
  refine wpc_non (by simp only [↓stU, stD, reduceEqDiff, ↓reduceIte, p21, decide_eq_false hc]) (wpc_skip ?_)
  simp only [↓stU, stD, reduceEqDiff, ↓reduceIte]
  refine wsr ?_
  simp only [↓stU, stD, reduceEqDiff, ↓reduceIte, p0, p8]
  refine wpc_ret ?_
  simp only [↓stU, stD, reduceEqDiff, ↓reduceIte]
  refine ⟨_, rfl, ?_, hS1⟩
  unfold dn
  rw [if_neg hc]
  exact hq

theorem rfloor_spec {S : St} {a : AV} {p : Rat} (H : Has fns) (hL : Laid S) (ha : RatIs S a p) (hp : InBound p) (hin : InBound (flr p : Rat)) : wpf fns (.fn 36 [] []) [a] S fun r S' => ∃ v, r = .tup [v, .int .i64 0] ∧ RatIs S' v (flr p : Rat) ∧ Same S S' := by
  have hd : 0 < p.den := by have := p.den_nz; omega
  obtain ⟨nv, dv, rfl, n1, n2⟩ := id ha
  refine wpf_fn H.f36 (by simp) ?_
  simp only [↓stU, stD, reduceEqDiff, ↓reduceIte]
  refine wsr ?_
  refine wpo_box (by simp only [↓stU, stD, reduceEqDiff, ↓reduceIte, cells_agg]; rfl) ?_
  intro S1 hS1 hn1 hc1
  refine wpo_alloc ?_
  intro S2 hS2 hn2 hc2
  simp only [↓stU, stD, reduceEqDiff, ↓reduceIte]
  have g1 : S2.h.get S.nx = some (.cells [.bool (decide (p.num < 0)), nv, dv] false 0) := by rw [hS2.2 _ (by omega)]; exact hc1
  have hS := hS1.trans hS2
  refine wss ?_
  simp only [↓stU, stD, reduceEqDiff, ↓reduceIte, ld3 g1]
  refine wpo_call ?_
  simp only [↓stU, stD, reduceEqDiff, ↓reduceIte]
  refine wpf_mono (check_ok H (hL.same hS) (ha.same hS) hp) ?_
  rintro _ S3 ⟨rfl, hS3⟩
  try simp only [↓stU, stD, reduceEqDiff, ↓reduceIte]
  refine wsr ?_
  simp only [↓stU, stD, reduceEqDiff, ↓reduceIte]
  refine wpc_non (by simp only [↓stU, stD, reduceEqDiff, ↓reduceIte]; rfl) (wpc_skip ?_)
  simp only [↓stU, stD, reduceEqDiff, ↓reduceIte]
  have k1 : S3.h.get S.nx = some (.cells [.bool (decide (p.num < 0)), nv, dv] false 0) := by rw [hS3.2 _ (by omega)]; exact g1
  have k2 : S3.h.get S1.nx = some (.cells [.bool false, .nilsl, .nilsl] false 0) := by rw [hS3.2 _ (by omega)]; exact hc2
  have l3 := hS3.1
  have e3 := hS.trans hS3
  refine wsr ?_
  simp only [↓stU, stD, reduceEqDiff, ↓reduceIte, evQ_faddr, faddr_ptr, ld3_0 k1, ld3_1 k1, ld3_2 k1]
  refine wpo_call ?_
  simp only [↓stU, stD, reduceEqDiff, ↓reduceIte]
  refine wpf_mono (down_spec H (n1.same e3) (n2.same e3) hp.half.fits.1 hd) ?_
  rintro _ S4 ⟨v, rfl, hv, hS4⟩
  simp only [↓stU, stD, reduceEqDiff, ↓reduceIte, ex0, ex1]
  refine wpo_call ?_
  simp only [↓stU, stD, reduceEqDiff, ↓reduceIte]
  refine wpf_mono (whole_spec H hv (dn_fit hp.1)) ?_
  rintro w S5 ⟨hw, hS5⟩
  rw [floor_sg] at hw
  obtain ⟨w0, w1, w2, rfl⟩ := hw.cells
  try simp only [↓stU, stD, reduceEqDiff, ↓reduceIte]
  refine wpo_call ?_
  simp only [↓stU, stD, reduceEqDiff, ↓reduceIte]
  refine wpf_mono (bounded_spec H hw hin) ?_
  rintro _ S6 ⟨rfl, hw6, hS6⟩
  simp only [↓stU, stD, reduceEqDiff, ↓reduceIte, ex0, ex1]
  have s36 := hS4.trans (hS5.trans hS6)
  have k6 : S6.h.get S1.nx = some (.cells [.bool false, .nilsl, .nilsl] false 0) := by rw [s36.2 _ (by omega)]; exact k2
  refine wpo_st (b := S1.nx) (by simp only [↓stU, stD, reduceEqDiff, ↓reduceIte]) (by simp only [↓stU, stD, reduceEqDiff, ↓reduceIte, cells_agg]; rfl) k6 rfl rfl ?_
  intro S7 hS7 hn7 hb7
  simp only [↓stU, stD, reduceEqDiff, ↓reduceIte]
  refine wpc_ret ?_
  simp only [↓stU, stD, reduceEqDiff, ↓reduceIte, results_cell, ld3 hb7]
  exact ⟨_, rfl, hw6.st k6 rfl hS7 hb7, hS7.same (e3.trans s36) (by omega)⟩

theorem rceil_spec {S : St} {a : AV} {p : Rat} (H : Has fns) (hL : Laid S) (ha : RatIs S a p) (hp : InBound p) (hin : InBound (cel p : Rat)) : wpf fns (.fn 37 [] []) [a] S fun r S' => ∃ v, r = .tup [v, .int .i64 0] ∧ RatIs S' v (cel p : Rat) ∧ Same S S' := by
  have hd : 0 < p.den := by have := p.den_nz; omega
  obtain ⟨nv, dv, rfl, n1, n2⟩ := id ha
  refine wpf_fn H.f37 (by simp) ?_
  simp only [↓stU, stD, reduceEqDiff, ↓reduceIte]
  refine wsr ?_
  refine wpo_box (by simp only [↓stU, stD, reduceEqDiff, ↓reduceIte, cells_agg]; rfl) ?_
  intro S1 hS1 hn1 hc1
  refine wpo_alloc ?_
  intro S2 hS2 hn2 hc2
  simp only [↓stU, stD, reduceEqDiff, ↓reduceIte]
  have g1 : S2.h.get S.nx = some (.cells [.bool (decide (p.num < 0)), nv, dv] false 0) := by rw [hS2.2 _ (by omega)]; exact hc1
  have hS := hS1.trans hS2
  refine wss ?_
  simp only [↓stU, stD, reduceEqDiff, ↓reduceIte, ld3 g1]
  refine wpo_call ?_
  simp only [↓stU, stD, reduceEqDiff, ↓reduceIte]
  refine wpf_mono (check_ok H (hL.same hS) (ha.same hS) hp) ?_
  rintro _ S3 ⟨rfl, hS3⟩
  try simp only [↓stU, stD, reduceEqDiff, ↓reduceIte]
  refine wsr ?_
  simp only [↓stU, stD, reduceEqDiff, ↓reduceIte]
  refine wpc_non (by simp only [↓stU, stD, reduceEqDiff, ↓reduceIte]; rfl) (wpc_skip ?_)
  simp only [↓stU, stD, reduceEqDiff, ↓reduceIte]
  have k1 : S3.h.get S.nx = some (.cells [.bool (decide (p.num < 0)), nv, dv] false 0) := by rw [hS3.2 _ (by omega)]; exact g1
  have k2 : S3.h.get S1.nx = some (.cells [.bool false, .nilsl, .nilsl] false 0) := by rw [hS3.2 _ (by omega)]; exact hc2
  have l3 := hS3.1
  have e3 := hS.trans hS3
  refine wsr ?_
  simp only [↓stU, stD, reduceEqDiff, ↓reduceIte, evQ_faddr, faddr_ptr, ld3_0 k1, ld3_1 k1, ld3_2 k1, un_not]
  refine wpo_call ?_
  simp only [↓stU, stD, reduceEqDiff, ↓reduceIte]
  refine wpf_mono (down_spec H (n1.same e3) (n2.same e3) hp.half.fits.1 hd) ?_
  rintro _ S4 ⟨v, rfl, hv, hS4⟩
  simp only [↓stU, stD, reduceEqDiff, ↓reduceIte, ex0, ex1]
  refine wsr ?_
  simp only [↓stU, stD, reduceEqDiff, ↓reduceIte, un_not, Bool.not_not]
  refine wpo_call ?_
  simp only [↓stU, stD, reduceEqDiff, ↓reduceIte]
  refine wpf_mono (whole_spec H hv (dn_fit hp.1)) ?_
  rintro w S5 ⟨hw, hS5⟩
  rw [ceil_sg] at hw
  obtain ⟨w0, w1, w2, rfl⟩ := hw.cells
  try simp only [↓stU, stD, reduceEqDiff, ↓reduceIte]
  refine wpo_call ?_
  simp only [↓stU, stD, reduceEqDiff, ↓reduceIte]
  refine wpf_mono (bounded_spec H hw hin) ?_
  rintro _ S6 ⟨rfl, hw6, hS6⟩
  simp only [↓stU, stD, reduceEqDiff, ↓reduceIte, ex0, ex1]
  have s36 := hS4.trans (hS5.trans hS6)
  have k6 : S6.h.get S1.nx = some (.cells [.bool false, .nilsl, .nilsl] false 0) := by rw [s36.2 _ (by omega)]; exact k2
  refine wpo_st (b := S1.nx) (by simp only [↓stU, stD, reduceEqDiff, ↓reduceIte]) (by simp only [↓stU, stD, reduceEqDiff, ↓reduceIte, cells_agg]; rfl) k6 rfl rfl ?_
  intro S7 hS7 hn7 hb7
  simp only [↓stU, stD, reduceEqDiff, ↓reduceIte]
  refine wpc_ret ?_
  simp only [↓stU, stD, reduceEqDiff, ↓reduceIte, results_cell, ld3 hb7]
  exact ⟨_, rfl, hw6.st k6 rfl hS7 hb7, hS7.same (e3.trans s36) (by omega)⟩
end Go.Ev.Gl

namespace Go.Ev.Gl
variable {fns : T AFn}

/-! ## Plain facts on comparing -/
end Go.Ev.Gl

namespace Go.Ev.Gl

/-! ## The simplest number between two: plain facts. n / d lies between a / b and c / e, and each that lies there has no smaller parts -/
end Go.Ev.Gl

namespace Go.Ev.Gl
variable {fns : T AFn}

/-! ## The simplest number between two positive numbers -/
end Go.Ev.Gl

namespace Go.Ev.Gl
variable {fns : T AFn}

/-! ## The simplest number between two numbers -/
theorem InBound.neg {q : Rat} (h : InBound q) : InBound (-q) := by
  unfold InBound
  rw [Rat.neg_num, Rat.neg_den, Int.natAbs_neg]
  exact h

end Go.Ev.Gl

namespace Go.Ev.Gl
variable {fns : T AFn}

/-! ## A store into a block that holds no limbs -/
def noU : List AV → Bool
  | [] => true
  | .int .u32 _ :: _ => false
  | _ :: l => noU l
theorem noU_get : ∀ {cs : List AV} {i : Nat} {n : Int}, noU cs = true → cs[i]? ≠ some (.int .u32 n)
  | [], _, _, _ => by simp
  | x :: l, 0, n, h => by
    intro e
    simp at e
    subst e
    simp [noU] at h
  | x :: l, i + 1, n, h => by
    rw [List.getElem?_cons_succ]
    refine noU_get (cs := l) ?_
    cases x with
    | int k m => cases k <;> first | exact h | (simp [noU] at h)
    | _ => exact h
theorem LimbIs.stU {S S' : St} {v : AV} {l : List Nat} {b : Nat} {cs cs' : List AV} {o o' : Bool} {s s' : Nat} (h : LimbIs S v l) (hb : S.h.get b = some (.cells cs o s)) (hn : noU cs = true) (hs : SameBut b S S') (hb' : S'.h.get b = some (.cells cs' o' s')) : LimbIs S' v l := by
  rcases h with h | ⟨b1, off, cap, o1, cs1, rfl, hc, hlt, hcs, hel⟩
  · exact .inl h
  · by_cases e : b1 = b
    · subst e
      have h0 : l = [] := by
        cases l with
        | nil => rfl
        | cons x l =>
          have := hel 0 (Int.ofNat x) (by simp)
          unfold cellsAt at hcs
          rw [hb, osel_some] at hcs
          cases hcs
          exact absurd this (noU_get hn)
      subst h0
      refine .inr ⟨b1, off, cap, o1, cs', rfl, hc, Nat.lt_of_lt_of_le hlt hs.1, by unfold cellsAt; rw [hb', osel_some]; rfl, fun i x hi => by simp at hi⟩
    · refine .inr ⟨b1, off, cap, o1, cs1, rfl, hc, Nat.lt_of_lt_of_le hlt hs.1, ?_, hel⟩
      unfold cellsAt at hcs ⊢
      rw [hs.2 _ hlt e]
      exact hcs
theorem NatIs.stU {S S' : St} {v : AV} {n : Nat} {b : Nat} {cs cs' : List AV} {o o' : Bool} {s s' : Nat} (h : NatIs S v n) (hb : S.h.get b = some (.cells cs o s)) (hn : noU cs = true) (hs : SameBut b S S') (hb' : S'.h.get b = some (.cells cs' o' s')) : NatIs S' v n := by
  obtain ⟨l, h1, h2, h3⟩ := h
  exact ⟨l, h1.stU hb hn hs hb', h2, h3⟩
theorem RatIs.stU {S S' : St} {v : AV} {q : Rat} {b : Nat} {cs cs' : List AV} {o o' : Bool} {s s' : Nat} (h : RatIs S v q) (hb : S.h.get b = some (.cells cs o s)) (hn : noU cs = true) (hs : SameBut b S S') (hb' : S'.h.get b = some (.cells cs' o' s')) : RatIs S' v q := by
  obtain ⟨nv, dv, h1, h2, h3⟩ := h
  exact ⟨nv, dv, h1, h2.stU hb hn hs hb', h3.stU hb hn hs hb'⟩

/-! ## Remainders -/
theorem bin_rem_t (e : EqT) {a b : Int} (hb : b ≠ 0) : binV .rem e (.int .i64 a) (.int .i64 b) = some (.int .i64 (a.tmod b)) := by
  show intsBin .rem .i64 a .i64 b = _
  unfold intsBin
  rw [show isShift .rem = false from rfl, bsel_false, keq_refl, bsel_true]
  show iRem .i64 a b = _
  unfold iRem
  split
  · rename_i m n
    have h0 : Nat.beq n 0 = false := by
      rw [Bool.eq_false_iff]; intro h; rw [Nat.beq_eq] at h; subst h; exact hb rfl
    rw [h0, bsel_false]
    rfl
  · have h0 : ieq b (.ofNat 0) = false := by
      rw [Bool.eq_false_iff]; intro h; rw [ieq_eq] at h; exact hb (by simpa using h)
    rw [h0, bsel_false]

end Go.Ev.Gl
