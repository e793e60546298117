/- Contracts (3): rational numbers, the statements' tools, the law. -/
import Derived.Test.YtmbmidkdinllgaaDoorGl2
open Nat (reduceEqDiff)
set_option maxHeartbeats 4000000
set_option linter.unusedSimpArgs false
set_option linter.unusedVariables false
namespace Go.Ev.Gl
variable {fns : T AFn}

/-- short enough for a product of some such numbers -/
def Half (n : Nat) : Prop := n < B ^ 20000
def HalfR (q : Rat) : Prop := Half q.num.natAbs ∧ Half q.den
theorem Half.fits {n : Nat} (h : Half n) : Fits n := Fits.of h (by decide)
theorem Half.mono {n m : Nat} (h : Half m) (hn : n ≤ m) : Half n := Nat.lt_of_le_of_lt hn h
theorem Half.div {n m : Nat} (h : Half n) : Half (n / m) := h.mono (Nat.div_le_self ..)
theorem pow_B_pos (k : Nat) : 0 < B ^ k := Nat.pow_pos B_pos
theorem mul_lt_pow {a b i j : Nat} (ha : a < B ^ i) (hb : b < B ^ j) : a * b < B ^ (i + j) := by
  rw [Nat.pow_add]
  rcases Nat.eq_zero_or_pos b with h | h
  · subst h; rw [Nat.mul_zero]; exact Nat.mul_pos (pow_B_pos i) (pow_B_pos j)
  · exact Nat.lt_of_lt_of_le (Nat.mul_lt_mul_of_pos_right ha h) (Nat.mul_le_mul_left _ (Nat.le_of_lt hb))
theorem add_lt_pow {a b i : Nat} (ha : a < B ^ i) (hb : b < B ^ i) : a + b < B ^ (i + 1) := by
  rw [Nat.pow_succ]
  have hB : B = 1000000000 := rfl
  have : B ^ i * 2 ≤ B ^ i * B := Nat.mul_le_mul_left _ (by omega)
  omega
theorem Half.mul {a b : Nat} (ha : Half a) (hb : Half b) : Fits (a * b) := Fits.of (mul_lt_pow ha hb) (by decide)
theorem HalfR.fits {q : Rat} (h : HalfR q) : FitsR q := ⟨h.1.fits, h.2.fits⟩
theorem sg_mulr (s : Bool) (n k : Nat) : sg s (n * k) = sg s n * (k : Int) := by cases s <;> simp [sg] <;> grind

end Go.Ev.Gl

namespace Go.Ev.Gl
variable {fns : T AFn}

/-- both parts have at most 1024 limbs -/
def InBound (q : Rat) : Prop := q.num.natAbs < B ^ 1024 ∧ q.den < B ^ 1024
theorem norm_len_iff {l : List Nat} (h : Norm l) (K : Nat) : l.length ≤ K ↔ val l < B ^ K := by
  constructor
  · intro hl
    exact Nat.lt_of_lt_of_le (val_lt h.1) (Nat.pow_le_pow_right B_pos hl)
  · exact len_le h

theorem fits_spec {S : St} {v : AV} {q : Rat} (H : Has fns) (h : RatIs S v q) : wpf fns (.fn 97 [] []) [v] S fun r S' => ∃ b, r = .bool b ∧ (b = true ↔ InBound q) ∧ Same S S' := by
  obtain ⟨nv, dv, rfl, ⟨l1, i1, j1, v1⟩, ⟨l2, i2, j2, v2⟩⟩ := h
  have e1 := norm_len_iff j1 1024
  have e2 := norm_len_iff j2 1024
  rw [v1] at e1
  rw [v2] at e2
  refine wpf_fn H.f97 (by simp) ?_
  simp only [↓stU, stD, reduceEqDiff, ↓reduceIte]
  refine wsr ?_
  refine wpo_box (by simp only [↓stU, stD, reduceEqDiff, ↓reduceIte, cells_agg]; rfl) ?_
  intro S1 hS1 hn1 hb1
  simp only [↓stU, stD, reduceEqDiff, ↓reduceIte]
  refine wsr ?_
  by_cases h1 : l1.length ≤ 1024
  · have d1 : decide (((l1.length : Nat) : Int) ≤ 1024) = true := decide_eq_true (by omega)
    by_cases h2 : l2.length ≤ 1024
    · have d2 : decide (((l2.length : Nat) : Int) ≤ 1024) = true := decide_eq_true (by omega)
      simp only [↓stU, stD, reduceEqDiff, ↓reduceIte, ↓stV, stW, Nat.reduceAdd, evQ_faddr, faddr_ptr, ld3_1 hb1, ld3_2 hb1, i1.len, i2.len, d1, d2]
      refine wpc_ret ?_
      simp only [↓stU, stD, reduceEqDiff, ↓reduceIte, ↓stV, stW, Nat.reduceAdd]
      exact ⟨true, rfl, ⟨fun _ => ⟨e1.1 h1, e2.1 h2⟩, fun _ => rfl⟩, hS1⟩
    · have d2 : decide (((l2.length : Nat) : Int) ≤ 1024) = false := decide_eq_false (by omega)
      simp only [↓stU, stD, reduceEqDiff, ↓reduceIte, ↓stV, stW, Nat.reduceAdd, evQ_faddr, faddr_ptr, ld3_1 hb1, ld3_2 hb1, i1.len, i2.len, d1, d2]
      refine wpc_ret ?_
      simp only [↓stU, stD, reduceEqDiff, ↓reduceIte, ↓stV, stW, Nat.reduceAdd]
      exact ⟨false, rfl, ⟨fun h => (by cases h), fun h => absurd (e2.2 h.2) h2⟩, hS1⟩
  · have d1 : decide (((l1.length : Nat) : Int) ≤ 1024) = false := decide_eq_false (by omega)
    simp only [↓stU, stD, reduceEqDiff, ↓reduceIte, ↓stV, stW, Nat.reduceAdd, evQ_faddr, faddr_ptr, ld3_1 hb1, i1.len, d1]
    refine wpc_ret ?_
    simp only [↓stU, stD, reduceEqDiff, ↓reduceIte, ↓stV, stW, Nat.reduceAdd]
    exact ⟨false, rfl, ⟨fun h => (by cases h), fun h => absurd (e1.2 h.1) h1⟩, hS1⟩
end Go.Ev.Gl

namespace Go.Ev.Gl
variable {fns : T AFn}

/-! ## Which numbers are valid -/
open Classical in
noncomputable def chk (l : List Nat) : Int := if 1024 < l.length then 4 else if Norm l then 0 else 3
noncomputable def partsE (l m : List Nat) : Int := if chk l ≠ 0 then chk l else if chk m ≠ 0 then chk m else if m = [] then 6 else 0
noncomputable def rchk (s : Bool) (l m : List Nat) : Int := if partsE l m ≠ 0 then partsE l m else if (l = [] ∧ s = true) ∨ Nat.gcd (val l) (val m) ≠ 1 then 3 else 0

theorem chk_zero {l : List Nat} : chk l = 0 ↔ l.length ≤ 1024 ∧ Norm l := by
  unfold chk
  by_cases h1 : 1024 < l.length
  · rw [if_pos h1]; constructor
    · intro h; cases h
    · intro h; omega
  · rw [if_neg h1]
    by_cases h2 : Norm l
    · rw [if_pos h2]; exact ⟨fun _ => ⟨by omega, h2⟩, fun _ => rfl⟩
    · rw [if_neg h2]; exact ⟨fun h => (by cases h), fun h => absurd h.2 h2⟩
theorem partsE_zero {l m : List Nat} : partsE l m = 0 ↔ (l.length ≤ 1024 ∧ Norm l) ∧ (m.length ≤ 1024 ∧ Norm m) ∧ m ≠ [] := by
  unfold partsE
  by_cases h1 : chk l = 0
  · rw [if_neg (by simp [h1])]
    by_cases h2 : chk m = 0
    · rw [if_neg (by simp [h2])]
      rw [chk_zero] at h1 h2
      by_cases h3 : m = []
      · rw [if_pos h3]; exact ⟨fun h => (by cases h), fun h => absurd h3 h.2.2⟩
      · rw [if_neg h3]; exact ⟨fun _ => ⟨h1, h2, h3⟩, fun _ => rfl⟩
    · rw [if_pos h2]; exact ⟨fun h => absurd h h2, fun h => absurd (chk_zero.2 h.2.1) h2⟩
  · rw [if_pos h1]; exact ⟨fun h => absurd h h1, fun h => absurd (chk_zero.2 h.1) h1⟩
theorem rchk_zero {s : Bool} {l m : List Nat} : rchk s l m = 0 ↔ partsE l m = 0 ∧ ¬ (l = [] ∧ s = true) ∧ Nat.gcd (val l) (val m) = 1 := by
  unfold rchk
  by_cases h1 : partsE l m = 0
  · rw [if_neg (by simp [h1])]
    by_cases h2 : (l = [] ∧ s = true) ∨ Nat.gcd (val l) (val m) ≠ 1
    · rw [if_pos h2]
      refine ⟨fun h => (by cases h), fun h => ?_⟩
      rcases h2 with h2 | h2
      · exact absurd h2 h.2.1
      · exact absurd h.2.2 h2
    · rw [if_neg h2]
      refine ⟨fun _ => ⟨h1, fun h => h2 (.inl h), ?_⟩, fun _ => rfl⟩
      apply Classical.byContradiction
      intro h; exact h2 (.inr h)
  · rw [if_pos h1]; exact ⟨fun h => absurd h h1, fun h => absurd h.1 h1⟩

def ChkI (S : St) (v : AV) (l : List Nat) (k : Nat) (A : Act') (S' : St) : Prop :=
  A.inr = false ∧ S' = S ∧ ∃ i : Nat, i + k = l.length ∧ tmpV 0 A.F = v ∧ tmpV 8 A.F = v ∧ tmpV 9 A.F = .int .i64 ((l.length : Nat) : Int) ∧ tmpV 10 A.F = .int .i64 (i : Int) ∧ Small (l.take i)

theorem natCheck_spec {S : St} {v : AV} {l : List Nat} (H : Has fns) (h : LimbIs S v l) : wpf fns (.fn 113 [] []) [v] S fun r S' => r = .int .i64 (chk l) ∧ S' = S := by
  have hB : B = 1000000000 := rfl
  refine wpf_fn H.f113 (by simp) ?_
  simp only [↓stU, stD, reduceEqDiff, ↓reduceIte]
  refine wsr ?_
  simp only [↓stU, stD, reduceEqDiff, ↓reduceIte]
  refine wss ?_
  simp only [↓stU, stD, reduceEqDiff, ↓reduceIte, h.len]
  by_cases h1 : 1024 < l.length
  · refine wpc_yes (by simp only [↓stU, stD, reduceEqDiff, ↓reduceIte, decide_eq_true (show (1024 : Int) < ((l.length : Nat) : Int) by omega)]) ?_
    refine wsr ?_
    simp only [↓stU, stD, reduceEqDiff, ↓reduceIte]
    refine wpc_ret ?_
    simp only [↓stU, stD, reduceEqDiff, ↓reduceIte, chk, if_pos h1]
  refine wpc_non (by simp only [↓stU, stD, reduceEqDiff, ↓reduceIte, decide_eq_false (show ¬ (1024 : Int) < ((l.length : Nat) : Int) by omega)]) (wpc_skip ?_)
  simp only [↓stU, stD, reduceEqDiff, ↓reduceIte]
  have bad : ¬ Norm l → chk l = 3 := fun hn => by unfold chk; rw [if_neg h1, if_neg hn]
  refine wss ?_
  simp only [↓stU, stD, reduceEqDiff, ↓reduceIte, h.len]
  refine wpc_mono (Q := fun o A' S' => S' = S ∧ ((o = .normal ∧ A'.inr = false ∧ tmpV 0 A'.F = v ∧ Small l) ∨ (o = .ret ∧ tmpV 2 A'.F = .int .i64 3 ∧ ¬ Norm l))) ?_ ?_
  · refine wpc_block (wpc_loop (ChkI S v l) ?_ l.length _ _ ⟨rfl, rfl, 0, by omega, by simp only [↓stU, stD, reduceEqDiff, ↓reduceIte], by simp only [↓stU, stD, reduceEqDiff, ↓reduceIte], by simp only [↓stU, stD, reduceEqDiff, ↓reduceIte], by simp only [↓stU, stD, reduceEqDiff, ↓reduceIte], by simp [Small]⟩)
    rintro k ⟨F, inr⟩ S' ⟨q0, hS', i, hik, p0, p8, p9, p10, hsm⟩
    simp only at q0 p0 p8 p9 p10
    subst q0
    rw [hS']
    refine wsr ?_
    by_cases hi : i < l.length
    · simp only [↓stU, stD, reduceEqDiff, ↓reduceIte, p9, p10, decide_eq_true (show (i : Int) < ((l.length : Nat) : Int) by omega)]
      refine wpc_seq (wpc_yes (by simp only [↓stU, stD, reduceEqDiff, ↓reduceIte]) (wpc_skip ?_))
      simp only [↓stU, stD, reduceEqDiff, ↓reduceIte]
      have hld := h.ld hi
      rw [List.getD_eq_getElem?_getD] at hld
      have htk : l.take (i + 1) = l.take i ++ [l[i]?.getD 0] := by rw [List.take_add_one, List.getElem?_eq_getElem hi]; rfl
      have hmem : l[i]?.getD 0 ∈ l := by rw [List.getElem?_eq_getElem hi]; exact List.getElem_mem hi
      generalize l[i]?.getD 0 = x at *
      refine wpc_seq (wpc_block (wpc_seq (wpc_reg ?_)))
      simp only [↓stU, stD, reduceEqDiff, ↓reduceIte, p8, p10, h.iaddr hi, hld]
      refine wsr ?_
      simp only [↓stU, stD, reduceEqDiff, ↓reduceIte]
      by_cases hx : 1000000000 ≤ x
      · refine wpc_yes (by simp only [↓stU, stD, reduceEqDiff, ↓reduceIte, decide_eq_true (show (1000000000 : Int) ≤ (x : Int) by omega)]) ?_
        refine wsr ?_
        simp only [↓stU, stD, reduceEqDiff, ↓reduceIte]
        refine wpc_ret ?_
        simp only [↓stU, stD, reduceEqDiff, ↓reduceIte]
        exact .inr fun hn => by have := hn.1 x hmem; omega
      · refine wpc_non (by simp only [↓stU, stD, reduceEqDiff, ↓reduceIte, decide_eq_false (show ¬ (1000000000 : Int) ≤ (x : Int) by omega)]) (wpc_skip ?_)
        simp only [↓stU, stD, reduceEqDiff, ↓reduceIte]
        refine wpc_reg ?_
        have w1 : IntKind.i64.wrap ((i : Int) + 1) = ((i + 1 : Nat) : Int) := by rw [wrap_i64 (by omega) (by omega)]; omega
        simp only [↓stU, stD, reduceEqDiff, ↓reduceIte, p10, w1]
        refine ⟨k - 1, by omega, rfl, rfl, i + 1, by omega, by simp only [↓stU, stD, reduceEqDiff, ↓reduceIte, p0], by simp only [↓stU, stD, reduceEqDiff, ↓reduceIte, p8], by simp only [↓stU, stD, reduceEqDiff, ↓reduceIte, p9], by simp only [↓stU, stD, reduceEqDiff, ↓reduceIte], ?_⟩
        rw [htk]
        exact Small.append.2 ⟨hsm, small_one (by omega)⟩
    · simp only [↓stU, stD, reduceEqDiff, ↓reduceIte, p9, p10, decide_eq_false (show ¬ (i : Int) < ((l.length : Nat) : Int) by omega)]
      refine wpc_seq (wpc_non (by simp only [↓stU, stD, reduceEqDiff, ↓reduceIte]) (wpc_exit ?_))
      simp only [↓stU, stD, reduceEqDiff, ↓reduceIte, p0]
      rw [List.take_of_length_le (by omega)] at hsm
      exact .inl hsm
  rintro o ⟨F, inr⟩ S' ⟨hS', ⟨rfl, q0, p0, hsm⟩ | ⟨rfl, p2, hbad⟩⟩
  · simp only at q0 p0
    subst q0
    rw [hS']
    try simp only [↓stU, stD, reduceEqDiff, ↓reduceIte]
    have hnorm : Norm l ↔ l.getLast? ≠ some 0 := ⟨fun hn => hn.2, fun hn => ⟨hsm, hn⟩⟩
    refine wpc_seq (wpc_seq (wpc_mono (Q := fun o A' S' => o = .normal ∧ S' = S ∧ ∃ b, tmpV 28 A'.F = .bool b ∧ (b = true ↔ ¬ Norm l)) ?_ ?_))
    · refine wpc_reg ?_
      by_cases h0 : l = []
      · subst h0
        simp only [↓stU, stD, reduceEqDiff, ↓reduceIte, p0, h.len]
        exact ⟨false, by simp [norm_nil]⟩
      · have hp := List.length_pos_iff.2 h0
        obtain ⟨j, hj⟩ : ∃ j, l.length = j + 1 := ⟨l.length - 1, by omega⟩
        have hld := h.ld (i := j) (by omega)
        rw [List.getD_eq_getElem?_getD] at hld
        have hlast : l.getLast? = some (l[j]?.getD 0) := by
          rw [List.getLast?_eq_getElem?, hj, Nat.add_sub_cancel, List.getElem?_eq_getElem (by omega)]; rfl
        have w1 : IntKind.i64.wrap (((l.length : Nat) : Int) - 1) = (j : Int) := by rw [wrap_i64 (by omega) (by omega)]; omega
        simp only [↓stU, stD, reduceEqDiff, ↓reduceIte, p0, h.len, decide_eq_true (show (0 : Int) < ((l.length : Nat) : Int) by omega), w1, h.iaddr (show j < l.length by omega), hld]
        refine ⟨decide (((l[j]?.getD 0 : Nat) : Int) = 0), rfl, ?_⟩
        rw [hnorm, hlast]
        simp
    rintro o ⟨F, inr⟩ S' ⟨rfl, hS', b, p28, hb⟩
    simp only at p28
    rw [hS']
    try simp only [↓stU, stD, reduceEqDiff, ↓reduceIte]
    cases b with
    | true =>
      refine wpc_yes (by simp only [↓stU, stD, reduceEqDiff, ↓reduceIte, p28]) ?_
      refine wsr ?_
      simp only [↓stU, stD, reduceEqDiff, ↓reduceIte]
      refine wpc_ret ?_
      simp only [↓stU, stD, reduceEqDiff, ↓reduceIte, bad (hb.1 rfl)]
    | false =>
      refine wpc_non (by simp only [↓stU, stD, reduceEqDiff, ↓reduceIte, p28]) (wpc_skip ?_)
      try simp only [↓stU, stD, reduceEqDiff, ↓reduceIte]
      refine wsr ?_
      simp only [↓stU, stD, reduceEqDiff, ↓reduceIte]
      refine wpc_ret ?_
      have hn : Norm l := Classical.byContradiction fun h => by have := hb.2 h; cases this
      simp only [↓stU, stD, reduceEqDiff, ↓reduceIte, chk_zero.2 ⟨by omega, hn⟩]
  · simp only at p2
    rw [hS']
    simp only [↓stU, stD, reduceEqDiff, ↓reduceIte, p2, bad hbad]

theorem parts_spec {S : St} {a b : AV} {l m : List Nat} (H : Has fns) (ha : LimbIs S a l) (hb : LimbIs S b m) : wpf fns (.fn 74 [] []) [a, b] S fun r S' => r = .int .i64 (partsE l m) ∧ S' = S := by
  refine wpf_fn H.f74 (by simp) ?_
  simp only [↓stU, stD, reduceEqDiff, ↓reduceIte]
  refine wsr ?_
  simp only [↓stU, stD, reduceEqDiff, ↓reduceIte]
  refine wss ?_
  simp only [↓stU, stD, reduceEqDiff, ↓reduceIte]
  refine wpo_call ?_
  simp only [↓stU, stD, reduceEqDiff, ↓reduceIte]
  refine wpf_mono (natCheck_spec H ha) ?_
  rintro _ T ⟨rfl, hT⟩
  rw [hT]
  try simp only [↓stU, stD, reduceEqDiff, ↓reduceIte]
  refine wsr ?_
  simp only [↓stU, stD, reduceEqDiff, ↓reduceIte]
  by_cases h1 : chk l = 0
  · refine wpc_non (by simp only [↓stU, stD, reduceEqDiff, ↓reduceIte, h1]; rfl) (wpc_skip ?_)
    simp only [↓stU, stD, reduceEqDiff, ↓reduceIte]
    refine wss ?_
    simp only [↓stU, stD, reduceEqDiff, ↓reduceIte]
    refine wpo_call ?_
    simp only [↓stU, stD, reduceEqDiff, ↓reduceIte]
    refine wpf_mono (natCheck_spec H hb) ?_
    rintro _ T ⟨rfl, hT⟩
    rw [hT]
    try simp only [↓stU, stD, reduceEqDiff, ↓reduceIte]
    refine wsr ?_
    simp only [↓stU, stD, reduceEqDiff, ↓reduceIte]
    by_cases h2 : chk m = 0
    · refine wpc_non (by simp only [↓stU, stD, reduceEqDiff, ↓reduceIte, h2]; rfl) (wpc_skip ?_)
      simp only [↓stU, stD, reduceEqDiff, ↓reduceIte]
      refine wss ?_
      simp only [↓stU, stD, reduceEqDiff, ↓reduceIte, hb.len]
      by_cases h3 : m = []
      · refine wpc_yes (by simp only [↓stU, stD, reduceEqDiff, ↓reduceIte, h3]; rfl) ?_
        refine wsr ?_
        simp only [↓stU, stD, reduceEqDiff, ↓reduceIte]
        refine wpc_ret ?_
        have e : partsE l m = 6 := by unfold partsE; rw [if_neg (by simp [h1]), if_neg (by simp [h2]), if_pos h3]
        simp only [↓stU, stD, reduceEqDiff, ↓reduceIte, e]
      · have := List.length_pos_iff.2 h3
        refine wpc_non (by simp only [↓stU, stD, reduceEqDiff, ↓reduceIte, decide_eq_false (show ¬ ((m.length : Nat) : Int) = 0 by omega)]) (wpc_skip ?_)
        simp only [↓stU, stD, reduceEqDiff, ↓reduceIte]
        refine wsr ?_
        simp only [↓stU, stD, reduceEqDiff, ↓reduceIte]
        refine wpc_ret ?_
        simp only [↓stU, stD, reduceEqDiff, ↓reduceIte, partsE, h1, h2, h3]
        simp
    · refine wpc_yes (by simp only [↓stU, stD, reduceEqDiff, ↓reduceIte, decide_eq_true (show chk m ≠ 0 from h2)]) ?_
      refine wsr ?_
      simp only [↓stU, stD, reduceEqDiff, ↓reduceIte]
      refine wpc_ret ?_
      simp only [↓stU, stD, reduceEqDiff, ↓reduceIte, partsE, h1]
      simp [h2]
  · refine wpc_yes (by simp only [↓stU, stD, reduceEqDiff, ↓reduceIte, decide_eq_true (show chk l ≠ 0 from h1)]) ?_
    refine wsr ?_
    simp only [↓stU, stD, reduceEqDiff, ↓reduceIte]
    refine wpc_ret ?_
    simp only [↓stU, stD, reduceEqDiff, ↓reduceIte, partsE]
    simp [h1]

/-- a struct of a sign and two lists -/
def RawIs (S : St) (v : AV) (s : Bool) (l m : List Nat) : Prop := ∃ nv dv, v = .agg [.bool s, nv, dv] ∧ LimbIs S nv l ∧ LimbIs S dv m
theorem RawIs.same {S S' : St} {v : AV} {s : Bool} {l m : List Nat} (h : RawIs S v s l m) (hs : Same S S') : RawIs S' v s l m := by
  obtain ⟨nv, dv, h1, h2, h3⟩ := h
  exact ⟨nv, dv, h1, h2.same hs, h3.same hs⟩

theorem check_spec {S : St} {v : AV} {s : Bool} {l m : List Nat} (H : Has fns) (hL : Laid S) (h : RawIs S v s l m) : wpf fns (.fn 31 [] []) [v] S fun r S' => r = .int .i64 (rchk s l m) ∧ Same S S' := by
  obtain ⟨nv, dv, rfl, h1, h2⟩ := h
  refine wpf_fn H.f31 (by simp) ?_
  simp only [↓stU, stD, reduceEqDiff, ↓reduceIte]
  refine wsr ?_
  refine wpo_box (by simp only [↓stU, stD, reduceEqDiff, ↓reduceIte, cells_agg]; rfl) ?_
  intro S1 hS1 hn1 hb1
  simp only [↓stU, stD, reduceEqDiff, ↓reduceIte]
  refine wss ?_
  simp only [↓stU, stD, reduceEqDiff, ↓reduceIte, evQ_faddr, faddr_ptr, ld3_1 hb1, ld3_2 hb1]
  refine wpo_call ?_
  simp only [↓stU, stD, reduceEqDiff, ↓reduceIte]
  refine wpf_mono (parts_spec H (h1.same hS1) (h2.same hS1)) ?_
  rintro _ T ⟨rfl, hT⟩
  rw [hT]
  try simp only [↓stU, stD, reduceEqDiff, ↓reduceIte]
  refine wsr ?_
  simp only [↓stU, stD, reduceEqDiff, ↓reduceIte]
  by_cases hp : partsE l m = 0
  · refine wpc_non (by simp only [↓stU, stD, reduceEqDiff, ↓reduceIte, hp]; rfl) (wpc_skip ?_)
    simp only [↓stU, stD, reduceEqDiff, ↓reduceIte]
    obtain ⟨⟨q1, q2⟩, ⟨q3, q4⟩, q5⟩ := partsE_zero.1 hp
    have n1 : NatIs S nv (val l) := ⟨l, h1, q2, rfl⟩
    have n2 : NatIs S dv (val m) := ⟨m, h2, q4, rfl⟩
    have f1 : Fits (val l) := Fits.of (val_lt q2.1) (by omega)
    have f2 : Fits (val m) := Fits.of (val_lt q4.1) (by omega)
    have hr : rchk s l m = if (l = [] ∧ s = true) ∨ Nat.gcd (val l) (val m) ≠ 1 then 3 else 0 := by unfold rchk; rw [if_neg (by simp [hp])]
    refine wpc_seq (wpc_seq (wpc_mono (Q := fun o A' S' => o = .normal ∧ Same S S' ∧ ∃ b, tmpV 27 A'.F = .bool b ∧ (b = true ↔ (l = [] ∧ s = true) ∨ Nat.gcd (val l) (val m) ≠ 1)) ?_ ?_))
    · refine wpc_reg ?_
      have cop : ∀ (F : Fr), tmpV 20 F = .bool false → tmpV 22 F = nv → tmpV 24 F = dv → ¬ (l = [] ∧ s = true) → wpo fns [⟨(some 25),(.x (.call (.c (.fn 75 [] [])) [(.t 22),(.t 24)])),none,0⟩, ⟨(some 26),(.q (.un .not (.t 25))),(some (20,false)),0⟩, ⟨(some 27),(.q (.pick (.t 20) (.c (.bool true)) (.t 26))),none,0⟩] F S1 (fun F' S' => Same S S' ∧ ∃ b, tmpV 27 F' = .bool b ∧ (b = true ↔ (l = [] ∧ s = true) ∨ Nat.gcd (val l) (val m) ≠ 1)) := by
        intro F p20 p22 p24 hns
        refine wpo_call ?_
        simp only [↓stU, stD, reduceEqDiff, ↓reduceIte, p22, p24]
        refine wpf_mono (coprime_spec H (hL.same hS1) (n1.same hS1) (n2.same hS1) f1 f2) ?_
        rintro _ S2 ⟨rfl, hS2⟩
        simp only [↓stU, stD, reduceEqDiff, ↓reduceIte, p20, un_not]
        refine ⟨hS1.trans hS2, _, rfl, ?_⟩
        simp [hns]
      by_cases h0 : l = []
      · subst h0
        cases s with
        | true =>
          simp only [↓stU, stD, reduceEqDiff, ↓reduceIte, evQ_faddr, faddr_ptr, ld3_0 hb1, ld3_1 hb1, h1.len, List.length_nil, Int.natCast_zero, decide_true]
          exact ⟨hS1, true, rfl, by simp⟩
        | false =>
          simp only [↓stU, stD, reduceEqDiff, ↓reduceIte, evQ_faddr, faddr_ptr, ld3_0 hb1, ld3_1 hb1, ld3_2 hb1, h1.len, List.length_nil, Int.natCast_zero, decide_true]
          refine wpo_mono (cop _ (by simp only [↓stU, stD, reduceEqDiff, ↓reduceIte]) (by simp only [↓stU, stD, reduceEqDiff, ↓reduceIte]) (by simp only [↓stU, stD, reduceEqDiff, ↓reduceIte]) (by simp)) ?_
          rintro F S' ⟨k1, b, k2, k3⟩
          exact ⟨k1, b, k2, by simpa using k3⟩
      · have := List.length_pos_iff.2 h0
        simp only [↓stU, stD, reduceEqDiff, ↓reduceIte, evQ_faddr, faddr_ptr, ld3_0 hb1, ld3_1 hb1, ld3_2 hb1, h1.len, decide_eq_false (show ¬ ((l.length : Nat) : Int) = 0 by omega)]
        exact cop _ (by simp only [↓stU, stD, reduceEqDiff, ↓reduceIte]) (by simp only [↓stU, stD, reduceEqDiff, ↓reduceIte]) (by simp only [↓stU, stD, reduceEqDiff, ↓reduceIte]) (by simp [h0])
    rintro o ⟨F, inr⟩ S' ⟨rfl, hS', b, p27, hb⟩
    simp only at p27
    try simp only [↓stU, stD, reduceEqDiff, ↓reduceIte]
    cases b with
    | true =>
      refine wpc_yes (by simp only [↓stU, stD, reduceEqDiff, ↓reduceIte, p27]) ?_
      refine wsr ?_
      simp only [↓stU, stD, reduceEqDiff, ↓reduceIte]
      refine wpc_ret ?_
      simp only [↓stU, stD, reduceEqDiff, ↓reduceIte, hr, if_pos (hb.1 rfl)]
      exact hS'
    | false =>
      refine wpc_non (by simp only [↓stU, stD, reduceEqDiff, ↓reduceIte, p27]) (wpc_skip ?_)
      try simp only [↓stU, stD, reduceEqDiff, ↓reduceIte]
      refine wsr ?_
      simp only [↓stU, stD, reduceEqDiff, ↓reduceIte]
      refine wpc_ret ?_
      simp only [↓stU, stD, reduceEqDiff, ↓reduceIte, hr, if_neg (fun h => by have := hb.2 h; cases this)]
      exact hS'
  · refine wpc_yes (by simp only [↓stU, stD, reduceEqDiff, ↓reduceIte, decide_eq_true (show partsE l m ≠ 0 from hp)]) ?_
    refine wsr ?_
    simp only [↓stU, stD, reduceEqDiff, ↓reduceIte]
    refine wpc_ret ?_
    have e : rchk s l m = partsE l m := by unfold rchk; rw [if_pos hp]
    simp only [↓stU, stD, reduceEqDiff, ↓reduceIte, e]
    exact hS1
end Go.Ev.Gl

namespace Go.Ev.Gl
variable {fns : T AFn}

/-! ## How long results are -/
def Bnd (k : Nat) (q : Rat) : Prop := q.num.natAbs < B ^ k ∧ q.den < B ^ k
theorem Bnd.mono {k j : Nat} {q : Rat} (h : Bnd k q) (hk : k ≤ j) : Bnd j q := ⟨Nat.lt_of_lt_of_le h.1 (Nat.pow_le_pow_right B_pos hk), Nat.lt_of_lt_of_le h.2 (Nat.pow_le_pow_right B_pos hk)⟩
theorem Bnd.half {k : Nat} {q : Rat} (h : Bnd k q) (hk : k ≤ 20000) : HalfR q := by unfold HalfR Half; exact Bnd.mono (j := 20000) h hk
theorem mkRat_le {n : Int} {d : Nat} (hd : d ≠ 0) : (mkRat n d).num.natAbs ≤ n.natAbs ∧ (mkRat n d).den ≤ d := by
  have hg : 0 < Nat.gcd n.natAbs d := Nat.gcd_pos_of_pos_right _ (by omega)
  rw [← Rat.normalize_eq_mkRat hd, Rat.normalize_eq]
  refine ⟨?_, Nat.div_le_self ..⟩
  simp only
  rw [Int.natAbs_ediv_of_dvd (Int.ofNat_dvd_left.2 (Nat.gcd_dvd_left ..)), Int.natAbs_natCast]
  exact Nat.div_le_self ..
theorem Bnd.mul {i j : Nat} {p q : Rat} (hp : Bnd i p) (hq : Bnd j q) : Bnd (i + j) (p * q) := by
  rw [Rat.mul_def']
  obtain ⟨h1, h2⟩ := mkRat_le (n := p.num * q.num) (Nat.mul_ne_zero p.den_nz q.den_nz)
  rw [Int.natAbs_mul] at h1
  exact ⟨Nat.lt_of_le_of_lt h1 (mul_lt_pow hp.1 hq.1), Nat.lt_of_le_of_lt h2 (mul_lt_pow hp.2 hq.2)⟩
theorem Bnd.add {i j : Nat} {p q : Rat} (hp : Bnd i p) (hq : Bnd j q) : Bnd (i + j + 1) (p + q) := by
  rw [Rat.add_def']
  obtain ⟨h1, h2⟩ := mkRat_le (n := p.num * q.den + q.num * p.den) (Nat.mul_ne_zero p.den_nz q.den_nz)
  have h3 := Int.natAbs_add_le (p.num * q.den) (q.num * p.den)
  rw [Int.natAbs_mul, Int.natAbs_mul, Int.natAbs_natCast, Int.natAbs_natCast] at h3
  refine ⟨Nat.lt_of_le_of_lt (Nat.le_trans h1 h3) (add_lt_pow (mul_lt_pow hp.1 hq.2) (by rw [Nat.add_comm]; exact mul_lt_pow hq.1 hp.2)), Nat.lt_of_le_of_lt h2 (Nat.lt_of_lt_of_le (mul_lt_pow hp.2 hq.2) (Nat.pow_le_pow_right B_pos (by omega)))⟩
theorem Bnd.neg {i : Nat} {p : Rat} (hp : Bnd i p) : Bnd i (-p) := by
  unfold Bnd; rw [Rat.neg_num, Rat.neg_den, Int.natAbs_neg]; exact hp
theorem Bnd.inv {i : Nat} {p : Rat} (hp : Bnd i p) (h0 : p.num ≠ 0) : Bnd i p⁻¹ := by
  rw [← inv_rat h0]
  obtain ⟨h1, h2⟩ := rat_mk (n := sg (decide (p.num < 0)) p.den) (d := p.num.natAbs) (by omega) (by rw [sg_natAbs]; exact Nat.Coprime.symm p.reduced)
  unfold Bnd
  rw [h1, h2, sg_natAbs]
  exact ⟨hp.2, hp.1⟩
/-! ## A block that is laid late -/
theorem LimbIs.lay {S S' : St} {v : AV} {l : List Nat} {b : Nat} (h : LimbIs S v l) (hn : S.h.get b = none) (hs : SameBut b S S') : LimbIs S' v l := by
  rcases h with h | ⟨c, off, cap, o1, ds, rfl, hc, hlt, hcs, hel⟩
  · exact .inl h
  · have hcb : c ≠ b := by
      rintro rfl
      simp [cellsAt, hn, osel] at hcs
    refine .inr ⟨c, off, cap, o1, ds, rfl, hc, Nat.lt_of_lt_of_le hlt hs.1, ?_, hel⟩
    unfold cellsAt
    rw [hs.2 c hlt hcb]
    exact hcs
theorem NatIs.lay {S S' : St} {v : AV} {n : Nat} {b : Nat} (h : NatIs S v n) (hn : S.h.get b = none) (hs : SameBut b S S') : NatIs S' v n := by
  obtain ⟨l, h1, h2⟩ := h
  exact ⟨l, h1.lay hn hs, h2⟩
theorem RatIs.lay {S S' : St} {v : AV} {q : Rat} {b : Nat} (h : RatIs S v q) (hn : S.h.get b = none) (hs : SameBut b S S') : RatIs S' v q := by
  obtain ⟨nv, dv, h1, h2, h3⟩ := h
  exact ⟨nv, dv, h1, h2.lay hn hs, h3.lay hn hs⟩
section
variable {W : Nat → Prop} {h0 : T AB} {base : Nat} {d : Option Nat} {m i : Nat} {l : List AO} {F : Fr} {S : St} {last : Option Nat} {Q : Fr → St → List Pend → Prop}
theorem flush_one {j id : Nat} {bl : AB} {h : T AB} (ht : Nat.testBit m j = true) : flush m [⟨j, id, bl⟩] h = ([], h.set id (some bl)) := by
  unfold flush
  rw [show Nat.testBit m (Pend.mk j id bl).i = true from ht, bsel_true]
  rfl
end

/-! ## Structs of two numbers -/
def zero6 : List AV := [.bool false, .nilsl, .nilsl, .bool false, .nilsl, .nilsl]
noncomputable def join6 (x y : AV) : Option AV := osel (fillP zero6 [(0, 3, x), (3, 3, y)]) fun cs => some (.agg cs)
theorem evQ_b6 (x y : Opd) (F : Fr) (h : T AB) : evQ (.build [.bool false, .nilsl, .nilsl, .bool false, .nilsl, .nilsl] [(0, 3, x), (3, 3, y)]) F h = join6 (x.val F) (y.val F) := rfl
theorem join6_eq (a b c d e f : AV) : join6 (.agg [a, b, c]) (.agg [d, e, f]) = some (.agg [a, b, c, d, e, f]) := rfl
theorem noInt_rat {S : St} {x y z : AV} {q : Rat} (h : RatIs S (.agg [x, y, z]) q) : noInt [x, y, z] = true := by
  obtain ⟨nv, dv, he, h1, h2⟩ := h
  cases he
  obtain ⟨l, k1, _⟩ := h1
  obtain ⟨m, k2, _⟩ := h2
  have e1 : ∀ {S : St} {v : AV} {l : List Nat}, LimbIs S v l → ∀ r, noInt (v :: r) = noInt r := fun h r => by
    rcases h with ⟨_, h | h⟩ | ⟨_, _, _, _, _, h, _⟩ <;> subst h <;> rfl
  show noInt (y :: [z]) = true
  rw [e1 k1, e1 k2]
  rfl

/-! ## The product of a pair -/
theorem bounded_spec {S : St} {x y z : AV} {q : Rat} (H : Has fns) (h : RatIs S (.agg [x, y, z]) q) (hq : InBound q) : wpf fns (.fn 52 [] []) [.agg [x, y, z]] S fun r S' => r = .tup [.agg [x, y, z], .int .i64 0] ∧ RatIs S' (.agg [x, y, z]) q ∧ Same S S' := by
  refine wpf_fn H.f52 (by simp) ?_
  simp only [↓stU, stD, reduceEqDiff, ↓reduceIte]
  refine wsr ?_
  refine wpo_box (by simp only [↓stU, stD, reduceEqDiff, ↓reduceIte, cells_agg]; rfl) ?_
  intro S1 hS1 hn1 hb1
  refine wpo_alloc ?_
  intro S2 hS2 hn2 hb2
  simp only [↓stU, stD, reduceEqDiff, ↓reduceIte]
  have hS := hS1.trans hS2
  have g1 : S2.h.get S.nx = some (.cells [x, y, z] false 0) := by rw [hS2.2 _ (by omega)]; exact hb1
  refine wss ?_
  simp only [↓stU, stD, reduceEqDiff, ↓reduceIte, ld3 g1]
  refine wpo_call ?_
  simp only [↓stU, stD, reduceEqDiff, ↓reduceIte]
  refine wpf_mono (fits_spec H (h.same hS)) ?_
  rintro _ S3 ⟨bb, rfl, hbb, hS3⟩
  have : bb = true := hbb.2 hq
  subst this
  simp only [↓stU, stD, reduceEqDiff, ↓reduceIte, un_not, Bool.not_true]
  refine wpc_non (by simp only [↓stU, stD, reduceEqDiff, ↓reduceIte]) (wpc_skip ?_)
  simp only [↓stU, stD, reduceEqDiff, ↓reduceIte]
  have g1' : S3.h.get S.nx = some (.cells [x, y, z] false 0) := by rw [hS3.2 _ (by omega)]; exact g1
  have g2' : S3.h.get S1.nx = some (.cells [.bool false, .nilsl, .nilsl] false 0) := by rw [hS3.2 _ (by omega)]; exact hb2
  refine wsr ?_
  simp only [↓stU, stD, reduceEqDiff, ↓reduceIte, ld3 g1']
  refine wpo_st (b := S1.nx) (by simp only [↓stU, stD, reduceEqDiff, ↓reduceIte]) (by simp only [↓stU, stD, reduceEqDiff, ↓reduceIte, cells_agg]; rfl) g2' rfl rfl ?_
  intro S4 hS4 hn4 hb4
  simp only [↓stU, stD, reduceEqDiff, ↓reduceIte]
  refine wpc_ret ?_
  simp only [↓stU, stD, reduceEqDiff, ↓reduceIte, results_cell, ld3 hb4]
  exact ⟨(h.same (hS.trans hS3)).st g2' rfl hS4 hb4, hS4.same (hS.trans hS3) (by omega)⟩
end Go.Ev.Gl

namespace Go.Ev.Gl
variable {fns : T AFn}

theorem both_spec {S : St} {a b : AV} {s t : Bool} {l1 m1 l2 m2 : List Nat} (H : Has fns) (hL : Laid S) (ha : RawIs S a s l1 m1) (hb : RawIs S b t l2 m2) : wpf fns (.fn 62 [] []) [a, b] S fun r S' => r = .int .i64 (if rchk s l1 m1 ≠ 0 then rchk s l1 m1 else rchk t l2 m2) ∧ Same S S' := by
  obtain ⟨nv, dv, rfl, _, _⟩ := id ha
  obtain ⟨mv, ev, rfl, _, _⟩ := id hb
  refine wpf_fn H.f62 (by simp) ?_
  simp only [↓stU, stD, reduceEqDiff, ↓reduceIte]
  refine wsr ?_
  refine wpo_box (by simp only [↓stU, stD, reduceEqDiff, ↓reduceIte, cells_agg]; rfl) ?_
  intro S1 hS1 hn1 hb1
  refine wpo_box (by simp only [↓stU, stD, reduceEqDiff, ↓reduceIte, cells_agg]; rfl) ?_
  intro S2 hS2 hn2 hb2
  simp only [↓stU, stD, reduceEqDiff, ↓reduceIte]
  have hS := hS1.trans hS2
  have g1 : S2.h.get S.nx = some (.cells [.bool s, nv, dv] false 0) := by rw [hS2.2 _ (by omega)]; exact hb1
  refine wss ?_
  simp only [↓stU, stD, reduceEqDiff, ↓reduceIte, ld3 g1]
  refine wpo_call ?_
  simp only [↓stU, stD, reduceEqDiff, ↓reduceIte]
  refine wpf_mono (check_spec H (hL.same hS) (ha.same hS)) ?_
  rintro _ S3 ⟨rfl, hS3⟩
  try simp only [↓stU, stD, reduceEqDiff, ↓reduceIte]
  refine wsr ?_
  simp only [↓stU, stD, reduceEqDiff, ↓reduceIte]
  by_cases h0 : rchk s l1 m1 = 0
  · refine wpc_non (by simp only [↓stU, stD, reduceEqDiff, ↓reduceIte, h0]; rfl) (wpc_skip ?_)
    simp only [↓stU, stD, reduceEqDiff, ↓reduceIte]
    have g2 : S3.h.get S1.nx = some (.cells [.bool t, mv, ev] false 0) := by rw [hS3.2 _ (by omega)]; exact hb2
    refine wsr ?_
    simp only [↓stU, stD, reduceEqDiff, ↓reduceIte, ld3 g2]
    refine wpo_call ?_
    simp only [↓stU, stD, reduceEqDiff, ↓reduceIte]
    refine wpf_mono (check_spec H (hL.same (hS.trans hS3)) (hb.same (hS.trans hS3))) ?_
    rintro _ S4 ⟨rfl, hS4⟩
    try simp only [↓stU, stD, reduceEqDiff, ↓reduceIte]
    refine wpc_ret ?_
    have e : (if rchk s l1 m1 ≠ 0 then rchk s l1 m1 else rchk t l2 m2) = rchk t l2 m2 := by rw [if_neg (by simp [h0])]
    rw [e]
    simp only [↓stU, stD, reduceEqDiff, ↓reduceIte]
    exact hS.trans (hS3.trans hS4)
  · refine wpc_yes (by simp only [↓stU, stD, reduceEqDiff, ↓reduceIte, decide_eq_true (show rchk s l1 m1 ≠ 0 from h0)]) ?_
    refine wsr ?_
    simp only [↓stU, stD, reduceEqDiff, ↓reduceIte]
    refine wpc_ret ?_
    rw [if_pos h0]
    simp only [↓stU, stD, reduceEqDiff, ↓reduceIte]
    exact hS.trans hS3

/-- a number that Check accepts -/
theorem RatIs.raw {S : St} {v : AV} {q : Rat} (h : RatIs S v q) (hq : InBound q) : ∃ s l m, RawIs S v s l m ∧ rchk s l m = 0 := by
  obtain ⟨nv, dv, rfl, ⟨l1, i1, j1, v1⟩, ⟨l2, i2, j2, v2⟩⟩ := h
  refine ⟨_, l1, l2, ⟨nv, dv, rfl, i1, i2⟩, rchk_zero.2 ⟨partsE_zero.2 ⟨⟨(norm_len_iff j1 _).2 (by rw [v1]; exact hq.1), j1⟩, ⟨(norm_len_iff j2 _).2 (by rw [v2]; exact hq.2), j2⟩, ?_⟩, ?_, ?_⟩⟩
  · rintro rfl
    rw [val_nil] at v2
    exact q.den_nz v2.symm
  · rintro ⟨h1, h2⟩
    subst h1
    rw [val_nil] at v1
    have := of_decide_eq_true h2
    omega
  · rw [v1, v2]; exact q.reduced

theorem both_ok {S : St} {a b : AV} {p q : Rat} (H : Has fns) (hL : Laid S) (ha : RatIs S a p) (hb : RatIs S b q) (hp : InBound p) (hq : InBound q) : wpf fns (.fn 62 [] []) [a, b] S fun r S' => r = .int .i64 0 ∧ Same S S' := by
  obtain ⟨s, l, m, h1, h2⟩ := ha.raw hp
  obtain ⟨t, l', m', h3, h4⟩ := hb.raw hq
  refine wpf_mono (both_spec H hL h1 h3) ?_
  rintro r S' ⟨rfl, hS⟩
  rw [h2, h4]
  exact ⟨rfl, hS⟩
end Go.Ev.Gl

namespace Go.Ev.Gl
variable {fns : T AFn}

theorem wpo_al {d m : Nat} {a : AlOp} {l : List AO} {F : Fr} {S : St} {Q : Fr → St → Prop} {v : AV} {bl : AB} (he : evA a F S.nx = some (v, bl)) (h : ∀ S1, Same S S1 → S1.nx = S.nx + 1 → S1.h.get S.nx = some bl → wpo fns l (putF (some d) F v) S1 Q) : wpo fns (⟨some d, .a a, none, m⟩ :: l) F S Q := by
  rw [wpo_aE]
  refine ⟨(v, bl), he, h _ (Same.alloc S _) rfl ?_⟩
  simp only
  rw [T.get_set, if_pos rfl]

theorem InBound.half {q : Rat} (h : InBound q) : HalfR q := Bnd.half (k := 1024) h (by decide)
theorem self_rat {S : St} {v : AV} {q : Rat} (h : RatIs S v q) : sameV v v = true := by
  obtain ⟨nv, dv, rfl, h1, h2⟩ := h
  exact agg_self (same_bool _) (nat_self h1) (nat_self h2)

end Go.Ev.Gl

namespace Go.Ev.Gl
variable {fns : T AFn}

/-! ## The rules, with what lies beyond the last block -/
theorem wpo_boxF {d t m : Nat} {x : Opd} {l : List AO} {F : Fr} {S : St} {Q : Fr → St → Prop} {cs : List AV} (hc : (x.val F).cells = some cs) (h : ∀ S1, Same S S1 → S1.nx = S.nx + 1 → S1.h.get S.nx = some (.cells cs false 0) → Frs S S1 → wpo fns l (putF (some d) F (.ptr S.nx 0)) S1 Q) : wpo fns (⟨some d, .a (.box t x), none, m⟩ :: l) F S Q := by
  rw [wpo_aE]
  refine ⟨(.ptr S.nx 0, .cells cs false 0), by rw [evA_box, hc]; rfl, h _ (Same.alloc S _) rfl ?_ (frs_alloc S _)⟩
  simp only
  rw [T.get_set, if_pos rfl]
theorem wpo_allocF {d t m : Nat} {l : List AO} {F : Fr} {S : St} {Q : Fr → St → Prop} {cs : List AV} (h : ∀ S1, Same S S1 → S1.nx = S.nx + 1 → S1.h.get S.nx = some (.cells cs false 0) → Frs S S1 → wpo fns l (putF (some d) F (.ptr S.nx 0)) S1 Q) : wpo fns (⟨some d, .a (.alloc t cs), none, m⟩ :: l) F S Q := by
  rw [wpo_aE]
  refine ⟨(.ptr S.nx 0, .cells cs false 0), rfl, h _ (Same.alloc S _) rfl ?_ (frs_alloc S _)⟩
  simp only
  rw [T.get_set, if_pos rfl]
theorem wpo_stF {n m b s : Nat} {x v : Opd} {l : List AO} {F : Fr} {S : St} {Q : Fr → St → Prop} {cs cs' : List AV} {o : Bool} (hx : x.val F = .ptr b 0) (hv : (v.val F).cells = some cs') (hb : S.h.get b = some (.cells cs o s)) (h1 : cs.length = n) (h2 : cs'.length = n)
    (h : ∀ S1, SameBut b S S1 → S1.nx = S.nx → S1.h.get b = some (.cells cs' o s) → Frs S S1 → wpo fns l F S1 Q) : wpo fns (⟨none, .x (.st n x v), none, m⟩ :: l) F S Q := by
  refine wpo_x (v := .undef) (fun call => ?_) (h ⟨S.h.set b (some (.cells cs' o s)), S.nx⟩ ((SameBut.refl b S).put _) rfl ?_ (frs_set hb _))
  · rw [evX_st, hv, osel_some, hx]; exact xst_all hb h1 h2
  · simp only
    rw [T.get_set, if_pos rfl]
theorem wpc_drd2 (W : Nat → Prop) {ops : List AO} {A : Act'} {S : St} {Q : Out → Act' → St → Prop} (h : ∀ S1, Same S S1 → S1.h = S.h → S1.nx = S.nx + ops.length → runD fns W S.h S.nx ops 0 A.F S1 [] none fun F S' ps => Q .normal ⟨F, A.inr⟩ ⟨(flush (2 ^ ops.length - 1) ps S'.h).2, S'.nx⟩) : wpc fns (.drw ops) A S Q := wpc_drd W (h _ (Same.nx S _) rfl rfl)

/-! ## Signs -/
def sgn (q : Rat) : Int := if q.num = 0 then 1 else if q.num < 0 then 0 else 2
theorem signOf_spec {S : St} {v : AV} {q : Rat} (H : Has fns) (h : RatIs S v q) : wpf fns (.fn 51 [] []) [v] S fun r S' => r = .int .i64 (sgn q) ∧ Same S S' := by
  obtain ⟨nv, dv, rfl, h1, h2⟩ := h
  obtain ⟨k, hk, hk0⟩ := lenpos h1
  refine wpf_fn H.f51 (by simp) ?_
  simp only [↓stU, stD, reduceEqDiff, ↓reduceIte]
  refine wsr ?_
  refine wpo_box (by simp only [↓stU, stD, reduceEqDiff, ↓reduceIte, cells_agg]; rfl) ?_
  intro S1 hS1 hn1 hb1
  simp only [↓stU, stD, reduceEqDiff, ↓reduceIte]
  refine wpc_seq (wpc_block (wpc_seq (wpc_reg ?_)))
  simp only [↓stU, stD, reduceEqDiff, ↓reduceIte, evQ_faddr, faddr_ptr, ld3_1 hb1, hk]
  by_cases h0 : q.num = 0
  · have : k = 0 := hk0.2 (by omega)
    refine wpc_yes (by simp only [↓stU, stD, reduceEqDiff, ↓reduceIte, decide_eq_true (show (k : Int) = 0 by omega)]) ?_
    refine wsr ?_
    simp only [↓stU, stD, reduceEqDiff, ↓reduceIte]
    refine wpc_ret ?_
    simp only [↓stU, stD, reduceEqDiff, ↓reduceIte, sgn, if_pos h0]
    exact hS1
  have : ¬ k = 0 := fun h => h0 (by have := hk0.1 h; omega)
  refine wpc_non (by simp only [↓stU, stD, reduceEqDiff, ↓reduceIte, decide_eq_false (show ¬ (k : Int) = 0 by omega)]) ?_
  refine wsr ?_
  simp only [↓stU, stD, reduceEqDiff, ↓reduceIte, evQ_faddr, faddr_ptr, ld3_0 hb1]
  by_cases h1 : q.num < 0
  · refine wpc_yes (by simp only [↓stU, stD, reduceEqDiff, ↓reduceIte, decide_eq_true h1]) ?_
    refine wsr ?_
    simp only [↓stU, stD, reduceEqDiff, ↓reduceIte]
    refine wpc_ret ?_
    simp only [↓stU, stD, reduceEqDiff, ↓reduceIte, sgn, if_neg h0, if_pos h1]
    exact hS1
  refine wpc_non (by simp only [↓stU, stD, reduceEqDiff, ↓reduceIte, decide_eq_false h1]) (wpc_skip ?_)
  simp only [↓stU, stD, reduceEqDiff, ↓reduceIte]
  refine wsr ?_
  simp only [↓stU, stD, reduceEqDiff, ↓reduceIte]
  refine wpc_ret ?_
  simp only [↓stU, stD, reduceEqDiff, ↓reduceIte, sgn, if_neg h0, if_neg h1]
  exact hS1

end Go.Ev.Gl

namespace Go.Ev.Gl
variable {fns : T AFn}

/-! ## The statements' own tools -/
theorem bin_rem_nat (e : EqT) (k : IntKind) {t d : Nat} (hd : 0 < d) : binV .rem e (.int k ((t : Nat) : Int)) (.int k ((d : Nat) : Int)) = some (.int k ((t % d : Nat) : Int)) := by
  show intsBin .rem k (Int.ofNat t) k (Int.ofNat d) = _
  unfold intsBin
  rw [show isShift .rem = false from rfl, bsel_false, keq_refl, bsel_true]
  show bsel (Nat.beq d 0) none (some (AV.int k (.ofNat (t % d)))) = _
  have h0 : Nat.beq d 0 = false := by rw [Bool.eq_false_iff]; intro h; rw [Nat.beq_eq] at h; omega
  rw [h0, bsel_false]
  rfl
def AlikeI (S : St) (a b : AV) (l m : List Nat) (k : Nat) (A : Act') (S' : St) : Prop :=
  A.inr = false ∧ S'.h = S.h ∧ S.nx ≤ S'.nx ∧ ∃ i : Nat, i + k = l.length ∧ tmpV 0 A.F = a ∧ tmpV 1 A.F = b ∧ tmpV 5 A.F = .int .i64 (i : Int) ∧ l.take i = m.take i

theorem same_of_h {S S' : St} (h1 : S'.h = S.h) (h2 : S.nx ≤ S'.nx) : Same S S' := ⟨h2, fun _ _ => by rw [h1]⟩

theorem alike_spec {S : St} {a b : AV} {l m : List Nat} (H : Has fns) (ha : LimbIs S a l) (hb : LimbIs S b m) (hl : l.length ≤ 1000000) : wpf fns (.fn 38 [] []) [a, b] S fun r S' => r = .bool (decide (l = m)) ∧ Same S S' := by
  refine wpf_fn H.f38 (by simp) ?_
  simp only [↓stU, stD, reduceEqDiff, ↓reduceIte]
  refine wsr ?_
  simp only [↓stU, stD, reduceEqDiff, ↓reduceIte]
  refine wss ?_
  simp only [↓stU, stD, reduceEqDiff, ↓reduceIte, ha.len, hb.len]
  by_cases hlen : l.length = m.length
  · refine wpc_non (by simp only [↓stU, stD, reduceEqDiff, ↓reduceIte, decide_eq_false (show ¬ ((l.length : Nat) : Int) ≠ ((m.length : Nat) : Int) by omega)]) (wpc_skip ?_)
    simp only [↓stU, stD, reduceEqDiff, ↓reduceIte]
    refine wss ?_
    simp only [↓stU, stD, reduceEqDiff, ↓reduceIte]
    refine wpc_mono (Q := fun o A' S' => Same S S' ∧ ((o = .normal ∧ l = m) ∨ (o = .ret ∧ tmpV 4 A'.F = .bool false ∧ l ≠ m))) ?_ ?_
    · refine wpc_block (wpc_loop (AlikeI S a b l m) ?_ l.length _ _ ⟨rfl, rfl, Nat.le_refl _, 0, by omega, by simp only [↓stU, stD, reduceEqDiff, ↓reduceIte], by simp only [↓stU, stD, reduceEqDiff, ↓reduceIte], by simp only [↓stU, stD, reduceEqDiff, ↓reduceIte], by simp⟩)
      rintro k ⟨F, inr⟩ S' ⟨q0, hh, hnx, i, hik, p0, p1, p5, htk⟩
      simp only at q0 p0 p1 p5
      subst q0
      have hS := same_of_h hh hnx
      have ha' := ha.same hS
      have hb' := hb.same hS
      refine wss ?_
      simp only [↓stU, stD, reduceEqDiff, ↓reduceIte, p0, p5, ha.len]
      by_cases hi : i < l.length
      · refine wpc_yes (by simp only [↓stU, stD, reduceEqDiff, ↓reduceIte, decide_eq_true (show (i : Int) < ((l.length : Nat) : Int) by omega)]) (wpc_skip ?_)
        simp only [↓stU, stD, reduceEqDiff, ↓reduceIte]
        have l1 := ha'.ld hi
        have l2 := hb'.ld (i := i) (by omega)
        rw [List.getD_eq_getElem?_getD] at l1 l2
        have t1 : l.take (i + 1) = l.take i ++ [l[i]?.getD 0] := by rw [List.take_add_one, List.getElem?_eq_getElem hi]; rfl
        have t2 : m.take (i + 1) = m.take i ++ [m[i]?.getD 0] := by rw [List.take_add_one, List.getElem?_eq_getElem (by omega : i < m.length)]; rfl
        refine wpc_seq (wpc_block (wpc_seq (wpc_drq ?_)))
        simp only [↓stU, stD, reduceEqDiff, ↓reduceIte, ↓stV, stW, Nat.reduceAdd, p0, p1, p5, ha.iaddr hi, hb.iaddr (show i < m.length by omega), l1, l2]
        by_cases hxy : l[i]?.getD 0 = m[i]?.getD 0
        · refine wpc_non (by simp only [↓stU, stD, reduceEqDiff, ↓reduceIte, hxy]; simp) (wpc_skip ?_)
          simp only [↓stU, stD, reduceEqDiff, ↓reduceIte]
          refine wpc_reg ?_
          have w1 : IntKind.i64.wrap ((i : Int) + 1) = ((i + 1 : Nat) : Int) := by rw [wrap_i64 (by omega) (by omega)]; omega
          simp only [↓stU, stD, reduceEqDiff, ↓reduceIte, p5, w1]
          exact ⟨k - 1, by omega, rfl, hh, by simp; omega, i + 1, by omega, by simp only [↓stU, stD, reduceEqDiff, ↓reduceIte, p0], by simp only [↓stU, stD, reduceEqDiff, ↓reduceIte, p1], by simp only [↓stU, stD, reduceEqDiff, ↓reduceIte], by rw [t1, t2, htk, hxy]⟩
        · refine wpc_yes (by simp only [↓stU, stD, reduceEqDiff, ↓reduceIte]; simp; omega) ?_
          refine wsr ?_
          simp only [↓stU, stD, reduceEqDiff, ↓reduceIte]
          refine wpc_ret ?_
          simp only [↓stU, stD, reduceEqDiff, ↓reduceIte]
          exact ⟨hS.trans (Same.nx S' _), .inr (by rintro rfl; exact hxy rfl)⟩
      · refine wpc_non (by simp only [↓stU, stD, reduceEqDiff, ↓reduceIte, decide_eq_false (show ¬ (i : Int) < ((l.length : Nat) : Int) by omega)]) (wpc_exit ?_)
        simp only [↓stU, stD, reduceEqDiff, ↓reduceIte]
        rw [List.take_of_length_le (by omega), List.take_of_length_le (by omega)] at htk
        exact ⟨hS, .inl htk⟩
    rintro o ⟨F, inr⟩ S' ⟨hS, ⟨rfl, he⟩ | ⟨rfl, p4, hne⟩⟩
    · simp only [↓stU, stD, reduceEqDiff, ↓reduceIte]
      refine wsr ?_
      simp only [↓stU, stD, reduceEqDiff, ↓reduceIte]
      refine wpc_ret ?_
      simp only [↓stU, stD, reduceEqDiff, ↓reduceIte, decide_eq_true he]
      exact hS
    · simp only at p4
      simp only [↓stU, stD, reduceEqDiff, ↓reduceIte, p4, decide_eq_false hne]
      exact hS
  · refine wpc_yes (by simp only [↓stU, stD, reduceEqDiff, ↓reduceIte, decide_eq_true (show ((l.length : Nat) : Int) ≠ ((m.length : Nat) : Int) by omega)]) ?_
    refine wsr ?_
    simp only [↓stU, stD, reduceEqDiff, ↓reduceIte]
    refine wpc_ret ?_
    have : ¬ l = m := by rintro rfl; exact hlen rfl
    simp only [↓stU, stD, reduceEqDiff, ↓reduceIte, decide_eq_false this]
    exact Same.refl _

theorem alike_nat {S : St} {a b : AV} {x y : Nat} (H : Has fns) (ha : NatIs S a x) (hb : NatIs S b y) (hx : Fits x) : wpf fns (.fn 38 [] []) [a, b] S fun r S' => r = .bool (decide (x = y)) ∧ Same S S' := by
  obtain ⟨l, h1, h2, h3⟩ := ha
  obtain ⟨m, k1, k2, k3⟩ := hb
  have := Fits.len h2 (by rw [h3]; exact hx)
  refine wpf_mono (alike_spec H h1 k1 (by omega)) ?_
  rintro r S' ⟨rfl, hS⟩
  refine ⟨?_, hS⟩
  congr 1
  apply decide_eq_decide.2
  rw [← h3, ← k3]
  exact ⟨fun h => by rw [h], fun h => norm_inj h2 k2 h⟩

theorem rat_eq_iff (p q : Rat) : p = q ↔ (decide (p.num < 0) = decide (q.num < 0)) ∧ p.num.natAbs = q.num.natAbs ∧ p.den = q.den := by
  constructor
  · rintro rfl; exact ⟨rfl, rfl, rfl⟩
  · rintro ⟨h1, h2, h3⟩
    have : p.num = q.num := by rw [← sg_num p, ← sg_num q, h1, h2]
    exact Rat.ext this h3

theorem sameRat_spec {S : St} {a b : AV} {p q : Rat} (H : Has fns) (ha : RatIs S a p) (hb : RatIs S b q) (hp : FitsR p) : wpf fns (.fn 14 [] []) [a, b] S fun r S' => r = .bool (decide (p = q)) ∧ Same S S' := by
  obtain ⟨nv, dv, rfl, h1, h2⟩ := ha
  obtain ⟨mv, ev, rfl, h3, h4⟩ := hb
  refine wpf_fn H.f14 (by simp) ?_
  simp only [↓stU, stD, reduceEqDiff, ↓reduceIte]
  refine wsr ?_
  refine wpo_box (by simp only [↓stU, stD, reduceEqDiff, ↓reduceIte, cells_agg]; rfl) ?_
  intro S1 hS1 hn1 hb1
  refine wpo_box (by simp only [↓stU, stD, reduceEqDiff, ↓reduceIte, cells_agg]; rfl) ?_
  intro S2 hS2 hn2 hb2
  simp only [↓stU, stD, reduceEqDiff, ↓reduceIte]
  have hS := hS1.trans hS2
  have g1 : S2.h.get S.nx = some (.cells [.bool (decide (p.num < 0)), nv, dv] false 0) := by rw [hS2.2 _ (by omega)]; exact hb1
  have hpq := rat_eq_iff p q
  refine wpc_seq (wpc_mono (Q := fun o A' S' => o = .normal ∧ Same S S' ∧ tmpV 4 A'.F = .bool (decide (p = q))) ?_ ?_)
  · refine wpc_reg ?_
    by_cases e1 : decide (p.num < 0) = decide (q.num < 0)
    · simp only [↓stU, stD, reduceEqDiff, ↓reduceIte, evQ_faddr, faddr_ptr, ld3_0 g1, ld3_0 hb2, ld3_1 g1, ld3_1 hb2, eq_bool, e1, beq_self_eq_true]
      refine wpo_call ?_
      simp only [↓stU, stD, reduceEqDiff, ↓reduceIte]
      refine wpf_mono (alike_nat H (h1.same hS) (h3.same hS) hp.1) ?_
      rintro _ S3 ⟨rfl, hS3⟩
      have g1' : S3.h.get S.nx = some (.cells [.bool (decide (p.num < 0)), nv, dv] false 0) := by rw [hS3.2 _ (by omega)]; exact g1
      have g2' : S3.h.get S1.nx = some (.cells [.bool (decide (q.num < 0)), mv, ev] false 0) := by rw [hS3.2 _ (by omega)]; exact hb2
      by_cases e2 : p.num.natAbs = q.num.natAbs
      · simp only [↓stU, stD, reduceEqDiff, ↓reduceIte, decide_eq_true e2, evQ_faddr, faddr_ptr, ld3_2 g1', ld3_2 g2']
        refine wpo_call ?_
        simp only [↓stU, stD, reduceEqDiff, ↓reduceIte]
        refine wpf_mono (alike_nat H (h2.same (hS.trans hS3)) (h4.same (hS.trans hS3)) hp.2) ?_
        rintro _ S4 ⟨rfl, hS4⟩
        try simp only [↓stU, stD, reduceEqDiff, ↓reduceIte]
        refine ⟨hS.trans (hS3.trans hS4), ?_⟩
        congr 1
        exact decide_eq_decide.2 ⟨fun h => hpq.2 ⟨e1, e2, h⟩, fun h => by rw [h]⟩
      · simp only [↓stU, stD, reduceEqDiff, ↓reduceIte, decide_eq_false e2]
        refine ⟨hS.trans hS3, ?_⟩
        rw [decide_eq_false (fun h => e2 (hpq.1 h).2.1)]
    · have : (decide (p.num < 0) == decide (q.num < 0)) = false := by simpa using e1
      simp only [↓stU, stD, reduceEqDiff, ↓reduceIte, evQ_faddr, faddr_ptr, ld3_0 g1, ld3_0 hb2, eq_bool, this]
      refine ⟨hS, ?_⟩
      rw [decide_eq_false (fun h => e1 (hpq.1 h).1)]
  · rintro o ⟨F, inr⟩ S' ⟨rfl, hS, p4⟩
    simp only at p4
    simp only [↓stU, stD, reduceEqDiff, ↓reduceIte]
    refine wpc_ret ?_
    simp only [↓stU, stD, reduceEqDiff, ↓reduceIte, p4]
    exact hS
end Go.Ev.Gl

namespace Go.Ev.Gl
variable {fns : T AFn}

theorem remB32 (e : EqT) (t : Nat) : binV .rem e (.int .u32 ((t : Nat) : Int)) (.int .u32 1000000000) = some (.int .u32 ((t % B : Nat) : Int)) := bin_rem_nat e .u32 B_pos

end Go.Ev.Gl

namespace Go.Ev.Gl
variable {fns : T AFn}

theorem Bnd.inBound {k : Nat} {q : Rat} (h : Bnd k q) (hk : k ≤ 1024) : InBound q := by unfold InBound; exact Bnd.mono (j := 1024) h hk

end Go.Ev.Gl

namespace Go.Ev.Gl
variable {fns : T AFn}

/-! ## Comparing -/
def cmpR (p q : Rat) : Int := if p < q then -1 else if p = q then 0 else 1
theorem num_lt (p q : Rat) : p < q ↔ p.num * q.den < q.num * p.den := Rat.lt_iff p q
theorem num_eq (p q : Rat) : p = q ↔ p.num * q.den = q.num * p.den := by
  constructor
  · rintro rfl; rfl
  · intro h
    have h1 : ¬ p < q := fun h' => by have := (num_lt p q).1 h'; omega
    have h2 : ¬ q < p := fun h' => by have := (num_lt q p).1 h'; omega
    exact Rat.le_antisymm (Rat.not_lt.1 h2) (Rat.not_lt.1 h1)
theorem den_pos (q : Rat) : (0 : Int) < q.den := by have := q.den_nz; omega

theorem cmpR_lt {p q : Rat} (h : sgn p < sgn q) : cmpR p q = -1 := by
  unfold cmpR
  rw [if_pos]
  rw [num_lt]
  have hp := den_pos p
  have hq := den_pos q
  unfold sgn at h
  rcases Int.lt_trichotomy p.num 0 with h1 | h1 | h1
  · have a := Int.mul_neg_of_neg_of_pos h1 hq
    by_cases h2 : q.num < 0
    · rw [if_neg (by omega), if_pos h1, if_neg (by omega), if_pos h2] at h; omega
    · have := Int.mul_nonneg (show 0 ≤ q.num by omega) (Int.le_of_lt hp); omega
  · rw [h1, Int.zero_mul]
    rw [if_pos h1] at h
    split at h
    · omega
    · split at h
      · omega
      · exact Int.mul_pos (by omega) hp
  · exfalso
    rw [if_neg (by omega), if_neg (by omega)] at h
    split at h
    · omega
    · split at h <;> omega
theorem cmpR_swap (p q : Rat) : cmpR q p = -cmpR p q := by
  unfold cmpR
  rcases Int.lt_trichotomy (p.num * q.den) (q.num * p.den) with h | h | h
  · rw [if_neg (fun h' => by have := (num_lt q p).1 h'; omega), if_neg (fun h' => by have := (num_eq q p).1 h'; omega), if_pos ((num_lt p q).2 h)]; rfl
  · have e := (num_eq p q).2 h
    subst e
    rw [if_neg (fun h' => by have := (num_lt p p).1 h'; omega), if_pos rfl]; rfl
  · rw [if_pos ((num_lt q p).2 h), if_neg (fun h' => by have := (num_lt p q).1 h'; omega), if_neg (fun h' => by have := (num_eq p q).1 h'; omega)]
theorem cmpR_gt {p q : Rat} (h : sgn q < sgn p) : cmpR p q = 1 := by rw [cmpR_swap q p, cmpR_lt h]; rfl
/-- where the signs agree: the products of the sizes -/
theorem cmpR_eq {p q : Rat} (h : sgn p = sgn q) : cmpR p q = (sgn p - 1) * cmpI (p.num.natAbs * q.den) (q.num.natAbs * p.den) := by
  have hp := den_pos p
  have hq := den_pos q
  have e1 : ((p.num.natAbs * q.den : Nat) : Int) = (p.num.natAbs : Int) * q.den := by rw [Int.natCast_mul]
  have e2 : ((q.num.natAbs * p.den : Nat) : Int) = (q.num.natAbs : Int) * p.den := by rw [Int.natCast_mul]
  have l := num_lt p q
  have e := num_eq p q
  rcases Int.lt_trichotomy p.num 0 with h1 | h1 | h1
  · have hs : sgn p = 0 := by unfold sgn; rw [if_neg (by omega), if_pos h1]
    have h2 : q.num < 0 := by
      rw [hs] at h; unfold sgn at h
      split at h
      · omega
      · split at h
        · assumption
        · omega
    rw [show (p.num.natAbs : Int) = -p.num by omega, Int.neg_mul] at e1
    rw [show (q.num.natAbs : Int) = -q.num by omega, Int.neg_mul] at e2
    rw [hs]
    unfold cmpR cmpI
    by_cases c1 : p < q
    · have := l.1 c1
      rw [if_pos c1, if_neg (by omega), if_neg (by omega)]; rfl
    · have n1 : ¬ p.num * q.den < q.num * p.den := fun x => c1 (l.2 x)
      by_cases c2 : p = q
      · have := e.1 c2
        rw [if_neg c1, if_pos c2, if_neg (by omega), if_pos (by omega)]; rfl
      · have n2 : ¬ p.num * q.den = q.num * p.den := fun x => c2 (e.2 x)
        rw [if_neg c1, if_neg c2, if_pos (by omega)]; rfl
  · have hs : sgn p = 1 := by unfold sgn; rw [if_pos h1]
    have h2 : q.num = 0 := by
      rw [hs] at h; unfold sgn at h
      split at h
      · assumption
      · split at h <;> omega
    rw [hs]
    have hpq : p = q := e.2 (by rw [h1, h2, Int.zero_mul, Int.zero_mul])
    unfold cmpR
    rw [if_neg (fun x => by have := l.1 x; rw [h1, h2, Int.zero_mul, Int.zero_mul] at this; omega), if_pos hpq]
    simp
  · have hs : sgn p = 2 := by unfold sgn; rw [if_neg (by omega), if_neg (by omega)]
    have h2 : 0 < q.num := by
      rw [hs] at h; unfold sgn at h
      split at h
      · omega
      · split at h
        · omega
        · omega
    rw [show (p.num.natAbs : Int) = p.num by omega] at e1
    rw [show (q.num.natAbs : Int) = q.num by omega] at e2
    rw [hs]
    unfold cmpR cmpI
    by_cases c1 : p < q
    · have := l.1 c1
      rw [if_pos c1, if_pos (by omega)]; rfl
    · have n1 : ¬ p.num * q.den < q.num * p.den := fun x => c1 (l.2 x)
      by_cases c2 : p = q
      · have := e.1 c2
        rw [if_neg c1, if_pos c2, if_neg (by omega), if_pos (by omega)]; rfl
      · have n2 : ¬ p.num * q.den = q.num * p.den := fun x => c2 (e.2 x)
        rw [if_neg c1, if_neg c2, if_neg (by omega), if_neg (by omega)]; rfl

theorem bin_muli (e : EqT) {a b : Int} (h1 : -9223372036854775808 ≤ a * b) (h2 : a * b ≤ 9223372036854775807) : binV .mul e (.int .i64 a) (.int .i64 b) = some (.int .i64 (a * b)) := by
  rw [bin_mul, wrap_i64 h1 h2]
theorem sgn_cases (q : Rat) : sgn q = 0 ∨ sgn q = 1 ∨ sgn q = 2 := by unfold sgn; split <;> (try split) <;> simp
theorem cmpI_cases (x y : Nat) : cmpI x y = -1 ∨ cmpI x y = 0 ∨ cmpI x y = 1 := by unfold cmpI; split <;> (try split) <;> simp
theorem val_ia {k : Nat} (hk : k < 3) : iaddrV (.arr 3 1) (.ptr 0 0) k = some (.ptr 0 k) := by
  show bsel (Nat.blt k 3) (some (AV.ptr 0 (0 + k * 1))) none = _
  rw [show Nat.blt k 3 = true from Nat.ble_eq_true_of_le hk, bsel_true]
  simp
theorem val_ld {S : St} (hL : Laid S) {k : Nat} (hk : k < 3) : qLdV (.ptr 0 k) false 1 S.h = some (.int .i64 ((k : Int) - 1)) := by
  simp only [qLdV, loadV, bsel_false, load1, cellsAt, hL.2.1, osel_some, cellsOfB, nth_eq, tabV]
  rcases (by omega : k = 0 ∨ k = 1 ∨ k = 2) with rfl | rfl | rfl <;> rfl

theorem rcmp_spec {S : St} {a b : AV} {p q : Rat} (H : Has fns) (hL : Laid S) (ha : RatIs S a p) (hb : RatIs S b q) (hp : InBound p) (hq : InBound q) : wpf fns (.fn 18 [] []) [a, b] S fun r S' => r = .tup [.int .i64 (cmpR p q), .int .i64 0] ∧ Same S S' := by
  obtain ⟨nv, dv, rfl, n1, n2⟩ := id ha
  obtain ⟨mv, ev, rfl, m1, m2⟩ := id hb
  refine wpf_fn H.f18 (by simp) ?_
  simp only [↓stU, stD, reduceEqDiff, ↓reduceIte]
  refine wsr ?_
  refine wpo_box (by simp only [↓stU, stD, reduceEqDiff, ↓reduceIte, cells_agg]; rfl) ?_
  intro S1 hS1 hn1 hc1
  refine wpo_box (by simp only [↓stU, stD, reduceEqDiff, ↓reduceIte, cells_agg]; rfl) ?_
  intro S2 hS2 hn2 hc2
  simp only [↓stU, stD, reduceEqDiff, ↓reduceIte]
  have g1 : S2.h.get S.nx = some (.cells [.bool (decide (p.num < 0)), nv, dv] false 0) := by rw [hS2.2 _ (by omega)]; exact hc1
  have hS := hS1.trans hS2
  refine wss ?_
  simp only [↓stU, stD, reduceEqDiff, ↓reduceIte, ld3 g1, ld3 hc2]
  refine wpo_call ?_
  simp only [↓stU, stD, reduceEqDiff, ↓reduceIte]
  refine wpf_mono (both_ok H (hL.same hS) (ha.same hS) (hb.same hS) hp hq) ?_
  rintro _ S3 ⟨rfl, hS3⟩
  try simp only [↓stU, stD, reduceEqDiff, ↓reduceIte]
  refine wsr ?_
  simp only [↓stU, stD, reduceEqDiff, ↓reduceIte]
  refine wpc_non (by simp only [↓stU, stD, reduceEqDiff, ↓reduceIte]; rfl) (wpc_skip ?_)
  simp only [↓stU, stD, reduceEqDiff, ↓reduceIte]
  have k1 : S3.h.get S.nx = some (.cells [.bool (decide (p.num < 0)), nv, dv] false 0) := by rw [hS3.2 _ (by omega)]; exact g1
  have k2 : S3.h.get S1.nx = some (.cells [.bool (decide (q.num < 0)), mv, ev] false 0) := by rw [hS3.2 _ (by omega)]; exact hc2
  have l3 := hS3.1
  have t1 : S.nx < S3.nx := by omega
  have t2 : S1.nx < S3.nx := by omega
  have e3 := hS.trans hS3
  refine wpc_seq (wpc_mono (Q := fun o A' S' => o = .normal ∧ A'.inr = false ∧ Same S3 S' ∧ tmpV 2 A'.F = .ptr S.nx 0 ∧ tmpV 3 A'.F = .ptr S1.nx 0 ∧ tmpV 7 A'.F = .int .i64 (sgn p) ∧ tmpV 8 A'.F = .int .i64 (sgn q)) ?_ ?_)
  · refine wpc_drd1 (fun _ => False) ?_
    intro S4 s4
    simp only [↓stU, stD, reduceEqDiff, ↓reduceIte, ↓stV, stW, Nat.reduceAdd, ld3 k1, ld3 k2, t1, t2, not_false_eq_true, self_rat ha, self_rat hb]
    refine runD_call0 rfl ?_
    try simp only [↓stU, stD, reduceEqDiff, ↓reduceIte, ↓stV, stW, Nat.reduceAdd]
    refine wpf_mono (signOf_spec H (ha.same (e3.trans s4))) ?_
    rintro _ S5 ⟨rfl, s5⟩
    refine ⟨s5, ?_⟩
    simp only [↓stU, stD, reduceEqDiff, ↓reduceIte, ↓stV, stW, Nat.reduceAdd, ld3 k1, ld3 k2, t1, t2, not_false_eq_true, self_rat ha, self_rat hb]
    refine runD_call0 rfl ?_
    try simp only [↓stU, stD, reduceEqDiff, ↓reduceIte, ↓stV, stW, Nat.reduceAdd]
    refine wpf_mono (signOf_spec H (hb.same (e3.trans (s4.trans s5)))) ?_
    rintro _ S6 ⟨rfl, s6⟩
    refine ⟨s6, ?_⟩
    simp only [↓stU, stD, reduceEqDiff, ↓reduceIte, ↓stV, stW, Nat.reduceAdd]
    exact s4.trans (s5.trans s6)
  rintro o ⟨F, inr⟩ S6 ⟨rfl, q0, s6, p2, p3, p7, p8⟩
  simp only at q0 p2 p3 p7 p8
  subst q0
  try simp only [↓stU, stD, reduceEqDiff, ↓reduceIte]
  have e6 := e3.trans s6
  have hL6 := hL.same e6
  have z0 := val_ld hL6 (k := 0) (by decide)
  have z2 := val_ld hL6 (k := 2) (by decide)
  have i0 := val_ia (k := 0) (by decide)
  have i2 := val_ia (k := 2) (by decide)
  have c0 : natOf (.int .i64 0) = some 0 := rfl
  have c2 : natOf (.int .i64 2) = some 2 := rfl
  refine wpc_seq (wpc_block (wpc_seq (wpc_reg ?_)))
  simp only [↓stU, stD, reduceEqDiff, ↓reduceIte, p7, p8]
  by_cases h1 : sgn p < sgn q
  · refine wpc_yes (by simp only [↓stU, stD, reduceEqDiff, ↓reduceIte, decide_eq_true h1]) ?_
    refine wsr ?_
    simp only [↓stU, stD, reduceEqDiff, ↓reduceIte, c0, i0, z0]
    refine wpc_ret ?_
    simp only [↓stU, stD, reduceEqDiff, ↓reduceIte]
    rw [cmpR_lt h1]
    exact ⟨rfl, e6⟩
  refine wpc_non (by simp only [↓stU, stD, reduceEqDiff, ↓reduceIte, decide_eq_false h1]) ?_
  refine wsr ?_
  simp only [↓stU, stD, reduceEqDiff, ↓reduceIte, p7, p8]
  by_cases h2 : sgn q < sgn p
  · refine wpc_yes (by simp only [↓stU, stD, reduceEqDiff, ↓reduceIte, decide_eq_true h2]) ?_
    refine wsr ?_
    simp only [↓stU, stD, reduceEqDiff, ↓reduceIte, c2, i2, z2]
    refine wpc_ret ?_
    simp only [↓stU, stD, reduceEqDiff, ↓reduceIte]
    rw [cmpR_gt h2]
    exact ⟨rfl, e6⟩
  refine wpc_non (by simp only [↓stU, stD, reduceEqDiff, ↓reduceIte, decide_eq_false h2]) (wpc_skip ?_)
  simp only [↓stU, stD, reduceEqDiff, ↓reduceIte]
  have h3 : sgn p = sgn q := by omega
  rw [cmpR_eq h3]
  obtain ⟨kk, hkk, hk3⟩ : ∃ kk : Nat, sgn p = kk ∧ kk < 3 := by
    rcases sgn_cases p with h | h | h
    · exact ⟨0, h, by decide⟩
    · exact ⟨1, h, by decide⟩
    · exact ⟨2, h, by decide⟩
  rw [hkk] at p7 ⊢
  have zk := val_ld hL6 hk3
  have ik := val_ia hk3
  have hk1 : S6.h.get S.nx = some (.cells [.bool (decide (p.num < 0)), nv, dv] false 0) := by rw [s6.2 _ (by omega)]; exact k1
  have hk2 : S6.h.get S1.nx = some (.cells [.bool (decide (q.num < 0)), mv, ev] false 0) := by rw [s6.2 _ (by omega)]; exact k2
  have l6 := s6.1
  have u1 : S.nx < S6.nx := by omega
  have u2 : S1.nx < S6.nx := by omega
  have u0 : 0 < S6.nx := by have := hL6.2.2; omega
  refine wpc_seq (wpc_mono (Q := fun o A' S' => o = .normal ∧ Same S6 S' ∧ tmpV 4 A'.F = .int .i64 (((kk : Int) - 1) * cmpI (p.num.natAbs * q.den) (q.num.natAbs * p.den)) ∧ tmpV 5 A'.F = .int .i64 0) ?_ ?_)
  · refine wpc_drd1 (fun _ => False) ?_
    intro S7 s7
    have e7 := e6.trans s7
    simp only [↓stU, stD, reduceEqDiff, ↓reduceIte, ↓stV, stW, Nat.reduceAdd, p2, p3, p7, evQ_faddr, isLoad_faddr, faddr_ptr, ik, zk, ld3_1 hk1, ld3_1 hk2, ld3_2 hk1, ld3_2 hk2, u0, u1, u2, not_false_eq_true, nat_self n1, nat_self n2, nat_self m1, nat_self m2]
    refine runD_call0 rfl ?_
    try simp only [↓stU, stD, reduceEqDiff, ↓reduceIte, ↓stV, stW, Nat.reduceAdd]
    refine wpf_mono (mul_spec H.f103 H.f64 (n1.same e7) (m2.same e7) hp.half.fits.1 hq.half.fits.2) ?_
    rintro x S8 ⟨hx, s8⟩
    refine ⟨s8, ?_⟩
    simp only [↓stU, stD, reduceEqDiff, ↓reduceIte, ↓stV, stW, Nat.reduceAdd, p2, p3, p7, evQ_faddr, isLoad_faddr, faddr_ptr, ld3_1 hk1, ld3_1 hk2, ld3_2 hk1, ld3_2 hk2, u0, u1, u2, not_false_eq_true, nat_self n1, nat_self n2, nat_self m1, nat_self m2]
    refine runD_call0 rfl ?_
    try simp only [↓stU, stD, reduceEqDiff, ↓reduceIte, ↓stV, stW, Nat.reduceAdd]
    have e8 := e7.trans s8
    refine wpf_mono (mul_spec H.f103 H.f64 (m1.same e8) (n2.same e8) hq.half.fits.1 hp.half.fits.2) ?_
    rintro y S9 ⟨hy, s9⟩
    refine ⟨s9, ?_⟩
    try simp only [↓stU, stD, reduceEqDiff, ↓reduceIte, ↓stV, stW, Nat.reduceAdd]
    refine runD_call0 rfl ?_
    try simp only [↓stU, stD, reduceEqDiff, ↓reduceIte, ↓stV, stW, Nat.reduceAdd]
    have hfit : Fits (p.num.natAbs * q.den) := Fits.of (mul_lt_pow hp.half.1 hq.half.2) (by decide)
    refine wpf_mono (cmp_spec H.f63 (hx.same s9) hy hfit) ?_
    rintro _ S10 ⟨rfl, s10⟩
    refine ⟨s10, ?_⟩
    have hmul : ((kk : Int) - 1) * cmpI (p.num.natAbs * q.den) (q.num.natAbs * p.den) = -1 ∨ ((kk : Int) - 1) * cmpI (p.num.natAbs * q.den) (q.num.natAbs * p.den) = 0 ∨ ((kk : Int) - 1) * cmpI (p.num.natAbs * q.den) (q.num.natAbs * p.den) = 1 := by
      rcases cmpI_cases (p.num.natAbs * q.den) (q.num.natAbs * p.den) with h | h | h <;> rw [h] <;> omega
    rw [bin_muli _ (by omega) (by omega)]
    simp only [↓stU, stD, reduceEqDiff, ↓reduceIte, ↓stV, stW, Nat.reduceAdd]
    exact s7.trans (s8.trans (s9.trans s10))
  rintro o ⟨F, inr⟩ S10 ⟨rfl, s10, p4, p5⟩
  simp only at p4 p5
  try simp only [↓stU, stD, reduceEqDiff, ↓reduceIte]
  refine wpc_ret ?_
  simp only [↓stU, stD, reduceEqDiff, ↓reduceIte, p4, p5]
  exact e6.trans s10
end Go.Ev.Gl

namespace Go.Ev.Gl
variable {fns : T AFn}

/-! ## The whole numbers below and above -/
def dn (neg : Bool) (x y : Nat) : Nat := if neg = true ∧ x % y ≠ 0 then x / y + 1 else x / y
def flr (q : Rat) : Int := q.num / q.den
theorem dn_down {x y : Nat} (hy : 0 < y) : -(dn true x y : Int) = (-(x : Int)) / y := by
  have h := Nat.div_add_mod x y
  have hr := Nat.mod_lt x hy
  have h2 : ((y : Int) * (x / y : Nat)) + ((x % y : Nat) : Int) = x := by
    have : (((y * (x / y) + x % y : Nat)) : Int) = (x : Int) := by rw [h]
    rw [Int.natCast_add, Int.natCast_mul] at this
    exact this
  unfold dn
  by_cases h0 : x % y = 0
  · rw [if_neg (fun h => h.2 h0)]
    generalize x / y = d at *
    exact ((Int.ediv_emod_unique (a := -(x : Int)) (b := y) (r := 0) (q := -(d : Int)) (by omega)).2 ⟨by rw [Int.mul_neg]; omega, by omega, by omega⟩).1.symm
  · rw [if_pos ⟨rfl, h0⟩]
    generalize x / y = d at *
    refine ((Int.ediv_emod_unique (a := -(x : Int)) (b := y) (r := (y : Int) - (x % y : Nat)) (q := -((d + 1 : Nat) : Int)) (by omega)).2 ⟨?_, by omega, by omega⟩).1.symm
    rw [Int.mul_neg, Int.natCast_add, Int.mul_add]
    omega
theorem dn_up (x y : Nat) : dn false x y = x / y := by unfold dn; rw [if_neg (fun h => by cases h.1)]

theorem floor_sg (q : Rat) : sg (decide (q.num < 0)) (dn (decide (q.num < 0)) q.num.natAbs q.den) = flr q := by
  have hd : 0 < q.den := by have := q.den_nz; omega
  unfold flr
  by_cases h : q.num < 0
  · rw [decide_eq_true h]
    show -(dn true q.num.natAbs q.den : Int) = _
    rw [dn_down hd, show -((q.num.natAbs : Nat) : Int) = q.num by omega]
  · rw [decide_eq_false h, dn_up]
    show ((q.num.natAbs / q.den : Nat) : Int) = _
    rw [Int.natCast_ediv, show ((q.num.natAbs : Nat) : Int) = q.num by omega]
theorem dn_le (neg : Bool) (x y : Nat) : dn neg x y ≤ x + 1 := by
  have := Nat.div_le_self x y
  unfold dn
  split <;> omega
theorem dn_lt {neg : Bool} {x y k : Nat} (hx : x < B ^ k) : dn neg x y < B ^ (k + 1) := by
  have h1 := dn_le neg x y
  have h2 : B ^ k < B ^ (k + 1) := Nat.pow_lt_pow_right (by decide) (by omega)
  omega
end Go.Ev.Gl

namespace Go.Ev.Gl
variable {fns : T AFn}

/-! ## Plain facts on comparing -/
theorem cmpR_eq0 {p q : Rat} : cmpR p q = 0 ↔ p = q := by
  unfold cmpR
  split
  · rename_i h; constructor
    · intro h'; omega
    · rintro rfl; exact absurd h (Rat.lt_irrefl)
  · split <;> simp_all
theorem num_cast (z : Int) : ((z : Rat)).num = z := rfl
end Go.Ev.Gl

namespace Go.Ev.Gl

/-! ## The simplest number between two: plain facts. n / d lies between a / b and c / e, and each that lies there has no smaller parts -/
def BestN (a b c e n d : Nat) : Prop := a * d ≤ n * b ∧ n * e ≤ c * d ∧ 0 < d ∧ Nat.Coprime n d ∧ ∀ x y, 0 < y → a * y ≤ x * b → x * e ≤ c * y → d ≤ y ∧ n ≤ x

def up (a b : Nat) : Nat := if a % b = 0 then a / b else a / b + 1
theorem up_ge {a b : Nat} (hb : 0 < b) : a ≤ up a b * b := by
  have h := Nat.div_add_mod a b
  unfold up
  split
  · rw [Nat.mul_comm]; omega
  · rename_i hr
    have := Nat.mod_lt a hb
    rw [Nat.add_mul, Nat.mul_comm]; omega
theorem up_min {a b x : Nat} (hb : 0 < b) (h : a ≤ x * b) : up a b ≤ x := by
  have h1 := Nat.div_add_mod a b
  have h2 : a / b ≤ x := by
    have := Nat.div_le_div_right (c := b) h
    rwa [Nat.mul_div_cancel _ hb] at this
  unfold up
  split
  · exact h2
  · rename_i hr
    rcases Nat.lt_or_eq_of_le h2 with h3 | h3
    · exact h3
    · exfalso
      rw [← h3, Nat.mul_comm] at h
      omega

theorem best_whole {a b c e : Nat} (hb : 0 < b) (h : up a b * e ≤ c) : BestN a b c e (up a b) 1 := by
  refine ⟨by rw [Nat.mul_one]; exact up_ge hb, by rw [Nat.mul_one]; exact h, Nat.one_pos, Nat.coprime_one_right _, fun x y hy h1 _ => ⟨hy, up_min hb ?_⟩⟩
  exact Nat.le_trans (Nat.le_mul_of_pos_right a hy) h1

theorem best_step {a b c e n d q r f : Nat} (ha : a = b * q + r) (hr : 0 < r) (hc : c = e * q + f) (he : 0 < e) (hb : 0 < b) (h : BestN e f b r n d) : BestN a b c e (q * n + d) n ∧ 0 < n := by
  obtain ⟨h1, h2, h3, h4, h5⟩ := h
  have hn : 0 < n := by
    rcases Nat.eq_zero_or_pos n with rfl | hn
    · rw [Nat.zero_mul] at h1
      have := Nat.mul_pos he h3
      omega
    · exact hn
  refine ⟨⟨?_, ?_, hn, ?_, fun x y hy k1 k2 => ?_⟩, hn⟩
  · subst ha
    rw [Nat.add_mul, Nat.add_mul, Nat.mul_comm b q, Nat.mul_right_comm q b n, Nat.mul_comm r n, Nat.mul_comm d b]
    omega
  · subst hc
    rw [Nat.add_mul, Nat.add_mul, Nat.mul_comm e q, Nat.mul_right_comm q e n, Nat.mul_comm d e, Nat.mul_comm f n]
    omega
  · unfold Nat.Coprime at *
    rw [Nat.gcd_comm, Nat.gcd_mul_right_add_right, h4]
  · subst ha
    subst hc
    have e1 : (b * q + r) * y = b * (q * y) + r * y := by rw [Nat.add_mul, Nat.mul_assoc]
    have e2 : (e * q + f) * y = e * (q * y) + f * y := by rw [Nat.add_mul, Nat.mul_assoc]
    rw [e1, Nat.mul_comm x b] at k1
    rw [e2, Nat.mul_comm x e] at k2
    have hry := Nat.mul_pos hr hy
    have hx : q * y < x := by
      apply Classical.byContradiction
      intro hx
      have := Nat.mul_le_mul_left b (Nat.le_of_not_lt hx)
      omega
    obtain ⟨z, rfl⟩ : ∃ z, x = q * y + z := ⟨x - q * y, by omega⟩
    rw [Nat.mul_add] at k1 k2
    have hz : 0 < z := by omega
    have := h5 y z hz (by rw [Nat.mul_comm y f]; omega) (by rw [Nat.mul_comm y r]; omega)
    refine ⟨this.2, ?_⟩
    have := Nat.mul_le_mul_left q this.2
    omega
end Go.Ev.Gl

namespace Go.Ev.Gl
variable {fns : T AFn}

/-! ## The simplest number between two positive numbers -/
theorem evQ_b2 {z0 z1 z2 : AV} {y z : Opd} {F : Fr} {h : T AB} (h2 : (y.val F).cells = some [y.val F]) (h3 : (z.val F).cells = some [z.val F]) : evQ (.build [z0, z1, z2] [(1, 1, y), (2, 1, z)]) F h = some (.agg [z0, y.val F, z.val F]) := by
  show (osel (fillP [z0, z1, z2] (partsV F [(1, 1, y), (2, 1, z)])) fun cs => some (AV.agg cs)) = _
  simp only [partsV, fillP, h2, h3, osel_some]
  rfl
theorem ld6 {h : T AB} {b i j : Nat} {cs : List AV} {o : Bool} {s : Nat} {x : AV} (hb : h.get b = some (.cells cs o s)) (hi : cs[0 + i + j]? = some x) : qLdV (.ptr b (0 + i + j)) false 1 h = some x := by
  simp only [qLdV, loadV, bsel_false, load1, cellsAt, hb, osel_some, cellsOfB, nth_eq]; exact hi

theorem best_le {a b c e n d : Nat} (h : BestN a b c e n d) (hb : 0 < b) (hle : a * e ≤ c * b) : d ≤ b ∧ n ≤ a := h.2.2.2.2 a b hb (Nat.le_refl _) hle

theorem pow_step {x k : Nat} (h : x < B ^ k) : x + 1 < B ^ (k + 1) := by
  have h2 : B ^ k < B ^ (k + 1) := Nat.pow_lt_pow_right (by decide) (by omega)
  omega

set_option maxHeartbeats 4000000 in
theorem simple_spec (H : Has fns) : ∀ (N : Nat) {S : St} {s t : Bool} {av bv cv ev : AV} {a b c e : Nat}, b + e ≤ N → NatIs S av a → NatIs S bv b → NatIs S cv c → NatIs S ev e → a < B ^ 1024 → b < B ^ 1024 → c < B ^ 1024 → e < B ^ 1024 → 0 < b → 0 < e → a * e ≤ c * b →
    wpf fns (.fn 53 [] []) [.agg [.bool s, av, bv, .bool t, cv, ev]] S fun r S' => ∃ nv dv n d, r = .agg [.bool false, nv, dv] ∧ NatIs S' nv n ∧ NatIs S' dv d ∧ BestN a b c e n d ∧ Same S S'
  | 0, _, _, _, _, _, _, _, _, _, _, _, hN, _, _, _, _, _, _, _, _, hb0, _, _ => by omega
  | N + 1, S, s, t, av, bv, cv, ev, a, b, c, e, hN, ha, hb, hc, he, xa, xb, xc, xe, hb0, he0, hle => by
    have fa : Fits a := Fits.of xa (by decide)
    have fb : Fits b := Fits.of xb (by decide)
    have fc : Fits c := Fits.of xc (by decide)
    have fe : Fits e := Fits.of xe (by decide)
    refine wpf_fn H.f53 (by simp) ?_
    simp only [↓stU, stD, reduceEqDiff, ↓reduceIte]
    refine wsr ?_
    refine wpo_box (by simp only [↓stU, stD, reduceEqDiff, ↓reduceIte, cells_agg]; rfl) ?_
    intro S1 hS1 hn1 hc1
    refine wpo_alloc ?_
    intro S2 hS2 hn2 hc2
    simp only [↓stU, stD, reduceEqDiff, ↓reduceIte]
    have hS := hS1.trans hS2
    have g1 : S2.h.get S.nx = some (.cells [.bool s, av, bv, .bool t, cv, ev] false 0) := by rw [hS2.2 _ (by omega)]; exact hc1
    refine wsr ?_
    have L1 := ld6 (i := 0) (j := 1) g1 rfl
    have L2 := ld6 (i := 0) (j := 2) g1 rfl
    simp only [↓stU, stD, reduceEqDiff, ↓reduceIte, evQ_faddr, faddr_ptr, L1, L2]
    refine wpo_call ?_
    simp only [↓stU, stD, reduceEqDiff, ↓reduceIte]
    refine wpf_mono (div_spec H (ha.same hS) (hb.same hS) fa hb0) ?_
    rintro _ S3 ⟨qv, rv, rfl, hq, hr, hS3⟩
    simp only [↓stU, stD, reduceEqDiff, ↓reduceIte, ex0, ex1]
    refine wsr ?_
    simp only [↓stU, stD, reduceEqDiff, ↓reduceIte]
    obtain ⟨lr, hr1, hr2, hr3⟩ := id hr
    have hlen : 0 < lr.length ↔ a % b ≠ 0 := by
      rw [← hr3]
      constructor
      · intro h h0
        have := norm_low hr2 (by rintro rfl; simp at h)
        have := Nat.pow_pos (n := lr.length - 1) B_pos
        omega
      · intro h
        rcases Nat.eq_zero_or_pos lr.length with h0 | h0
        · exact absurd (by rw [List.eq_nil_of_length_eq_zero h0]; rfl) h
        · exact h0
    have e3 := hS.trans hS3
    have l3 := hS3.1
    have g3 : S3.h.get S.nx = some (.cells [.bool s, av, bv, .bool t, cv, ev] false 0) := by rw [hS3.2 _ (by omega)]; exact g1
    have k3 : S3.h.get S1.nx = some (.cells [.bool false, .nilsl, .nilsl] false 0) := by rw [hS3.2 _ (by omega)]; exact hc2
    -- the whole number above
    refine wpc_seq (wpc_mono (Q := fun o A' S' => o = .normal ∧ Same S3 S' ∧ A'.inr = false ∧ tmpV 1 A'.F = .ptr S.nx 0 ∧ tmpV 2 A'.F = .ptr S1.nx 0 ∧ tmpV 3 A'.F = qv ∧ tmpV 4 A'.F = rv ∧ NatIs S' (tmpV 5 A'.F) (up a b)) ?_ ?_)
    · refine wsr ?_
      simp only [↓stU, stD, reduceEqDiff, ↓reduceIte, hr1.len]
      by_cases h0 : a % b = 0
      · have : ¬ 0 < lr.length := fun h => hlen.1 h h0
        refine wpc_non (by simp only [↓stU, stD, reduceEqDiff, ↓reduceIte, decide_eq_false (show ¬ (0 : Int) < ((lr.length : Nat) : Int) by omega)]) (wpc_skip ?_)
        simp only [↓stU, stD, reduceEqDiff, ↓reduceIte]
        refine ⟨Same.refl _, ?_⟩
        unfold up
        rw [if_pos h0]
        exact hq
      · have := hlen.2 h0
        refine wpc_yes (by simp only [↓stU, stD, reduceEqDiff, ↓reduceIte, decide_eq_true (show (0 : Int) < ((lr.length : Nat) : Int) by omega)]) (wpc_reg ?_)
        simp only [↓stU, stD, reduceEqDiff, ↓reduceIte]
        refine wpo_call ?_
        simp only [↓stU, stD, reduceEqDiff, ↓reduceIte]
        refine wpf_mono (one_spec H.f66) ?_
        rintro ov S4 ⟨ho, hS4⟩
        try simp only [↓stU, stD, reduceEqDiff, ↓reduceIte]
        refine wpo_call ?_
        simp only [↓stU, stD, reduceEqDiff, ↓reduceIte]
        refine wpf_mono (add_spec H.f99 (hq.same hS4) ho (fa.mono (Nat.div_le_self ..)) (Fits.of (i := 1) (by decide) (by decide))) ?_
        rintro sv S5 ⟨hs, hS5⟩
        try simp only [↓stU, stD, reduceEqDiff, ↓reduceIte]
        refine ⟨hS4.trans hS5, ?_⟩
        unfold up
        rw [if_neg h0]
        exact hs
    rintro o ⟨F, inr⟩ S5 ⟨rfl, s5, q0, p1, p2, p3, p4, hu⟩
    simp only at q0 p1 p2 p3 p4 hu
    subst q0
    try simp only [↓stU, stD, reduceEqDiff, ↓reduceIte]
    generalize hu5 : tmpV 5 F = uv at hu
    have e5 := e3.trans s5
    have l5 := s5.1
    have g5 : S5.h.get S.nx = some (.cells [.bool s, av, bv, .bool t, cv, ev] false 0) := by rw [s5.2 _ (by omega)]; exact g3
    have k5 : S5.h.get S1.nx = some (.cells [.bool false, .nilsl, .nilsl] false 0) := by rw [s5.2 _ (by omega)]; exact k3
    have t5 : S.nx < S5.nx := by omega
    have M1 := ld6 (i := 3) (j := 1) g5 rfl
    have M2 := ld6 (i := 3) (j := 2) g5 rfl
    have hul : up a b ≤ a + 1 := by have := Nat.div_le_self a b; unfold up; split <;> omega
    have xu := Nat.lt_of_le_of_lt hul (pow_step xa)
    have fu : Fits (up a b) := Fits.of xu (by decide)
    -- is it below the upper number?
    refine wpc_seq (wpc_seq (wpc_mono (Q := fun o A' S' => o = .normal ∧ Same S5 S' ∧ A'.inr = false ∧ tmpV 1 A'.F = .ptr S.nx 0 ∧ tmpV 2 A'.F = .ptr S1.nx 0 ∧ tmpV 3 A'.F = qv ∧ tmpV 4 A'.F = rv ∧ tmpV 5 A'.F = uv ∧ tmpV 34 A'.F = .bool (decide (up a b * e ≤ c))) ?_ ?_))
    · refine wpc_drd1 (fun _ => False) ?_
      intro S6 s6
      simp only [↓stU, stD, reduceEqDiff, ↓reduceIte, ↓stV, stW, Nat.reduceAdd, p1, hu5, evQ_faddr, isLoad_faddr, faddr_ptr, M2, t5, not_false_eq_true, nat_self he]
      refine runD_call0 rfl ?_
      try simp only [↓stU, stD, reduceEqDiff, ↓reduceIte, ↓stV, stW, Nat.reduceAdd]
      refine wpf_mono (mul_spec H.f103 H.f64 (hu.same s6) (he.same (e5.trans s6)) fu fe) ?_
      rintro x S7 ⟨hx, s7⟩
      refine ⟨s7, ?_⟩
      simp only [↓stU, stD, reduceEqDiff, ↓reduceIte, ↓stV, stW, Nat.reduceAdd, p1, evQ_faddr, isLoad_faddr, faddr_ptr, M1, t5, not_false_eq_true, nat_self hc]
      refine runD_call0 rfl ?_
      try simp only [↓stU, stD, reduceEqDiff, ↓reduceIte, ↓stV, stW, Nat.reduceAdd]
      have fx : Fits (up a b * e) := Fits.of (mul_lt_pow xu xe) (by decide)
      refine wpf_mono (cmp_spec H.f63 hx (hc.same (e5.trans (s6.trans s7))) fx) ?_
      rintro _ S8 ⟨rfl, s8⟩
      refine ⟨s8, ?_⟩
      have hcmp : decide (cmpI (up a b * e) c ≤ 0) = decide (up a b * e ≤ c) := by
        unfold cmpI
        by_cases h : up a b * e ≤ c
        · rw [decide_eq_true h]
          split
          · rfl
          · rw [if_pos (by omega)]; rfl
        · rw [decide_eq_false h, if_neg (by omega), if_neg (by omega)]; rfl
      simp only [↓stU, stD, reduceEqDiff, ↓reduceIte, ↓stV, stW, Nat.reduceAdd, p1, p2, p3, p4, hu5, hcmp]
      exact s6.trans (s7.trans s8)
    rintro o ⟨F, inr⟩ S8 ⟨rfl, s8, q0, p1, p2, p3, p4, p5, p34⟩
    simp only at q0 p1 p2 p3 p4 p5 p34
    subst q0
    try simp only [↓stU, stD, reduceEqDiff, ↓reduceIte]
    have e8 := e5.trans s8
    have l8 := s8.1
    have g8 : S8.h.get S.nx = some (.cells [.bool s, av, bv, .bool t, cv, ev] false 0) := by rw [s8.2 _ (by omega)]; exact g5
    have k8 : S8.h.get S1.nx = some (.cells [.bool false, .nilsl, .nilsl] false 0) := by rw [s8.2 _ (by omega)]; exact k5
    by_cases hw : up a b * e ≤ c
    · refine wpc_yes (by simp only [↓stU, stD, reduceEqDiff, ↓reduceIte, p34, decide_eq_true hw]) ?_
      refine wsr ?_
      simp only [↓stU, stD, reduceEqDiff, ↓reduceIte, p5]
      refine wpo_call ?_
      simp only [↓stU, stD, reduceEqDiff, ↓reduceIte]
      refine wpf_mono (whole_spec H (hu.same s8) fu) ?_
      rintro w S9 ⟨hw9, s9⟩
      obtain ⟨w0, w1, rfl, i1, i2⟩ := hw9
      have i1' : NatIs S9 w0 (up a b) := i1
      have i2' : NatIs S9 w1 1 := i2
      have hneg : decide (((sg false (up a b) : Int) : Rat).num < 0) = false := decide_eq_false (by rw [num_cast]; simp [sg])
      rw [hneg]
      have k9 : S9.h.get S1.nx = some (.cells [.bool false, .nilsl, .nilsl] false 0) := by rw [s9.2 _ (by omega)]; exact k8
      refine wpo_st (b := S1.nx) (by simp only [↓stU, stD, reduceEqDiff, ↓reduceIte, p2]) (by simp only [↓stU, stD, reduceEqDiff, ↓reduceIte, cells_agg]; rfl) k9 rfl rfl ?_
      intro S10 s10 n10 b10
      simp only [↓stU, stD, reduceEqDiff, ↓reduceIte]
      refine wpc_ret ?_
      simp only [↓stU, stD, reduceEqDiff, ↓reduceIte, results_cell, ld3 b10, p2]
      exact ⟨w0, w1, up a b, 1, rfl, i1'.st k9 rfl s10 b10, i2'.st k9 rfl s10 b10, best_whole hb0 hw, s10.same (e8.trans s9) (by omega)⟩
    refine wpc_non (by simp only [↓stU, stD, reduceEqDiff, ↓reduceIte, p34, decide_eq_false hw]) (wpc_skip ?_)
    simp only [↓stU, stD, reduceEqDiff, ↓reduceIte]
    -- between two whole numbers
    have hdm := Nat.div_add_mod a b
    have hq0 : a / b = a / b := rfl
    have hrl := Nat.mod_lt a hb0
    have key : b * (a / b * e) + a % b * e ≤ b * c := by
      have : (b * (a / b) + a % b) * e ≤ c * b := by rw [hdm]; exact hle
      rw [Nat.add_mul, Nat.mul_assoc, Nat.mul_comm c b] at this
      exact this
    have hr0 : 0 < a % b := by
      rcases Nat.eq_zero_or_pos (a % b) with h0 | h0
      · exfalso
        apply hw
        unfold up
        rw [if_pos h0]
        rw [h0, Nat.zero_mul, Nat.add_zero] at key
        exact Nat.le_of_mul_le_mul_left key hb0
      · exact h0
    have hqe : a / b * e < c := by
      have := Nat.mul_pos hr0 he0
      exact Nat.lt_of_mul_lt_mul_left (a := b) (by omega)
    have hfe : c - a / b * e < e := by
      have : ¬ (a / b + 1) * e ≤ c := by
        have h := hw
        unfold up at h
        rw [if_neg (by omega)] at h
        exact h
      rw [Nat.add_mul, Nat.one_mul] at this
      omega
    have hq' : a / b ≤ a := Nat.div_le_self a b
    have hcf : c = e * (a / b) + (c - a / b * e) := by rw [Nat.mul_comm e]; omega
    have hlo : e * (a % b) ≤ b * (c - a / b * e) := by
      rw [Nat.mul_sub, Nat.mul_comm e]
      omega
    have xq := Nat.lt_of_le_of_lt hq' xa
    have fq : Fits (a / b) := fa.mono hq'
    have fqe : Fits (a / b * e) := fc.mono (Nat.le_of_lt hqe)
    have xr : a % b < B ^ 1024 := Nat.lt_trans hrl xb
    have xf : c - a / b * e < B ^ 1024 := Nat.lt_trans hfe xe
    generalize hqq : a / b = q at *
    generalize hrr : a % b = r at *
    generalize hff : c - q * e = f at *
    have hf0 : 0 < f := by omega
    have N1 := ld6 (i := 3) (j := 1) g8 rfl
    have N2 := ld6 (i := 3) (j := 2) g8 rfl
    have N3 := ld6 (i := 0) (j := 2) g8 rfl
    have t8 : S.nx < S8.nx := by omega
    have hq8 := hq.same (s5.trans s8)
    refine wpc_seq (wpc_mono (Q := fun o A' S' => o = .normal ∧ Same S8 S' ∧ A'.inr = false ∧ tmpV 1 A'.F = .ptr S.nx 0 ∧ tmpV 2 A'.F = .ptr S1.nx 0 ∧ tmpV 3 A'.F = qv ∧ tmpV 4 A'.F = rv ∧ NatIs S' (tmpV 6 A'.F) f) ?_ ?_)
    · refine wpc_drd1 (fun _ => False) ?_
      intro S9 s9
      simp only [↓stU, stD, reduceEqDiff, ↓reduceIte, ↓stV, stW, Nat.reduceAdd, p1, p3, evQ_faddr, isLoad_faddr, faddr_ptr, N1, N2, t8, not_false_eq_true, nat_self hc, nat_self he]
      refine runD_call0 rfl ?_
      try simp only [↓stU, stD, reduceEqDiff, ↓reduceIte, ↓stV, stW, Nat.reduceAdd]
      refine wpf_mono (mul_spec H.f103 H.f64 (hq8.same s9) (he.same (e8.trans s9)) fq fe) ?_
      rintro x S10 ⟨hx, s10⟩
      refine ⟨s10, ?_⟩
      try simp only [↓stU, stD, reduceEqDiff, ↓reduceIte, ↓stV, stW, Nat.reduceAdd]
      refine runD_call0 rfl ?_
      try simp only [↓stU, stD, reduceEqDiff, ↓reduceIte, ↓stV, stW, Nat.reduceAdd]
      refine wpf_mono (sub_spec H.f103 H.f100 (hc.same (e8.trans (s9.trans s10))) hx (Nat.le_of_lt hqe) fc) ?_
      rintro y S11 ⟨hy, s11⟩
      refine ⟨s11, ?_⟩
      rw [hff] at hy
      simp only [↓stU, stD, reduceEqDiff, ↓reduceIte, ↓stV, stW, Nat.reduceAdd, p1, p2, p3, p4]
      exact ⟨s9.trans (s10.trans s11), hy⟩
    rintro o ⟨F, inr⟩ S11 ⟨rfl, s11, q0, p1, p2, p3, p4, hfv⟩
    simp only at q0 p1 p2 p3 p4 hfv
    subst q0
    try simp only [↓stU, stD, reduceEqDiff, ↓reduceIte]
    generalize hf6 : tmpV 6 F = fv at hfv
    have e11 := e8.trans s11
    have l11 := s11.1
    have g11 : S11.h.get S.nx = some (.cells [.bool s, av, bv, .bool t, cv, ev] false 0) := by rw [s11.2 _ (by omega)]; exact g8
    have k11 : S11.h.get S1.nx = some (.cells [.bool false, .nilsl, .nilsl] false 0) := by rw [s11.2 _ (by omega)]; exact k8
    have O2 := ld6 (i := 3) (j := 2) g11 rfl
    have O3 := ld6 (i := 0) (j := 2) g11 rfl
    refine wsr ?_
    simp only [↓stU, stD, reduceEqDiff, ↓reduceIte, p1, p4, hf6, evQ_faddr, faddr_ptr, O2, O3, evQ_b2, nat_cells he, nat_cells hfv, nat_cells hb, nat_cells hr, evQ_b6, join6_eq]
    refine wpo_call ?_
    simp only [↓stU, stD, reduceEqDiff, ↓reduceIte]
    have hr11 := hr.same (s5.trans (s8.trans s11))
    refine wpf_mono (simple_spec H N (a := e) (b := f) (c := b) (e := r) (by omega) (he.same e11) hfv (hb.same e11) hr11 xe xf xb xr hf0 hr0 hlo) ?_
    rintro _ S12 ⟨nv, dv, n, d, rfl, hn, hd, hbest, s12⟩
    try simp only [↓stU, stD, reduceEqDiff, ↓reduceIte]
    refine wpo_alloc ?_
    intro S13 s13 n13 c13
    refine wpo_st (b := S12.nx) (by simp only [↓stU, stD, reduceEqDiff, ↓reduceIte]) (by simp only [↓stU, stD, reduceEqDiff, ↓reduceIte, cells_agg]; rfl) c13 rfl rfl ?_
    intro S14 s14 n14 g14
    simp only [↓stU, stD, reduceEqDiff, ↓reduceIte]
    have s1214 : Same S12 S14 := s14.same s13 (Nat.le_refl _)
    have s1114 := s12.trans s1214
    have e14 := e11.trans s1114
    have l12 := s12.1
    have k14 : S14.h.get S1.nx = some (.cells [.bool false, .nilsl, .nilsl] false 0) := by rw [s1114.2 _ (by omega)]; exact k11
    have hn14 := hn.same s1214
    have hd14 := hd.same s1214
    have hq14 := hq8.same (s11.trans s1114)
    obtain ⟨bst, hn0⟩ := best_step (a := a) (b := b) (c := c) (e := e) hdm.symm hr0 hcf he0 hb0 hbest
    obtain ⟨bd, bn⟩ := best_le hbest hf0 hlo
    obtain ⟨_, bq⟩ := best_le bst hb0 hle
    have fn : Fits n := fe.mono bn
    have fd : Fits d := (Fits.of xf (by decide)).mono bd
    have fqn : Fits (q * n) := fa.mono (by omega)
    have tN : S12.nx < S14.nx := by omega
    have neN : ¬ S12.nx = S1.nx := by omega
    refine wpc_seq (wpc_mono (Q := fun o A' S' => o = .normal ∧ SameBut S1.nx S14 S' ∧ tmpV 2 A'.F = .ptr S1.nx 0 ∧ ∃ xv, S'.h.get S1.nx = some (.cells [.bool false, xv, nv] false 0) ∧ NatIs S' xv (q * n + d) ∧ NatIs S' nv n) ?_ ?_)
    · refine wpc_drd1 (fun c => c = S1.nx) ?_
      intro S15 s15
      simp only [↓stU, stD, reduceEqDiff, ↓reduceIte, ↓stV, stW, Nat.reduceAdd, p2, p3, evQ_faddr, isLoad_faddr, faddr_ptr, ld3_1 g14, ld3_2 g14, tN, neN, not_false_eq_true, nat_self hn, nat_self hd]
      refine runD_call0 rfl ?_
      try simp only [↓stU, stD, reduceEqDiff, ↓reduceIte, ↓stV, stW, Nat.reduceAdd]
      refine wpf_mono (mul_spec H.f103 H.f64 (hq14.same s15) (hn14.same s15) fq fn) ?_
      rintro x S16 ⟨hx, s16⟩
      refine ⟨s16, ?_⟩
      simp only [↓stU, stD, reduceEqDiff, ↓reduceIte, ↓stV, stW, Nat.reduceAdd, p2, p3, evQ_faddr, isLoad_faddr, faddr_ptr, ld3_1 g14, ld3_2 g14, tN, neN, not_false_eq_true, nat_self hn, nat_self hd]
      refine runD_call0 rfl ?_
      try simp only [↓stU, stD, reduceEqDiff, ↓reduceIte, ↓stV, stW, Nat.reduceAdd]
      have s1416 := s15.trans s16
      refine wpf_mono (add_spec H.f99 hx (hd14.same s1416) fqn fd) ?_
      rintro y S17 ⟨hy, s17⟩
      refine ⟨s17, ?_⟩
      have s1417 := s1416.trans s17
      have k17 : S17.h.get S1.nx = some (.cells [.bool false, .nilsl, .nilsl] false 0) := by rw [s1417.2 _ (by omega)]; exact k14
      simp only [↓stU, stD, reduceEqDiff, ↓reduceIte, ↓stV, stW, Nat.reduceAdd, p2, evQ_faddr, isLoad_faddr, isLoad_build, faddr_ptr, ld3_1 g14, tN, neN, not_false_eq_true, nat_self hn, evQ_b2, nat_cells hy, nat_cells hn]
      refine runD_st0 (b := S1.nx) rfl (by simp only [↓stU, stD, reduceEqDiff, ↓reduceIte, ↓stV, stW, Nat.reduceAdd, p2]) (by simp only [↓stU, stD, reduceEqDiff, ↓reduceIte, ↓stV, stW, Nat.reduceAdd, cells_agg]; rfl) k17 rfl rfl rfl ?_
      intro S18 s18 n18 b18
      simp only [↓stU, stD, reduceEqDiff, ↓reduceIte, ↓stV, stW, Nat.reduceAdd, p2]
      exact ⟨sameBut_trans' s1417 s18, y, b18, hy.st k17 rfl s18 b18, (hn14.same s1417).st k17 rfl s18 b18⟩
    rintro o ⟨F, inr⟩ S18 ⟨rfl, s18, p2, xv, b18, hxv, hnv⟩
    simp only at p2
    try simp only [↓stU, stD, reduceEqDiff, ↓reduceIte]
    refine wpc_ret ?_
    simp only [↓stU, stD, reduceEqDiff, ↓reduceIte, results_cell, ld3 b18, p2]
    exact ⟨xv, nv, q * n + d, n, rfl, hxv, hnv, bst, s18.same e14 (by omega)⟩
end Go.Ev.Gl

namespace Go.Ev.Gl
variable {fns : T AFn}

/-! ## The simplest number between two numbers -/
def BestR (p q s : Rat) : Prop := p ≤ s ∧ s ≤ q ∧ ∀ x : Rat, p ≤ x → x ≤ q → s.den ≤ x.den ∧ s.num.natAbs ≤ x.num.natAbs
theorem le_num (p q : Rat) : p ≤ q ↔ p.num * q.den ≤ q.num * p.den := by
  rw [← Rat.not_lt, num_lt]; omega
theorem le_nat {p q : Rat} (hp : 0 < p.num) (hq : 0 < q.num) : p ≤ q ↔ p.num.natAbs * q.den ≤ q.num.natAbs * p.den := by
  rw [le_num]
  have e1 : ((p.num.natAbs * q.den : Nat) : Int) = p.num * q.den := by rw [Int.natCast_mul, show ((p.num.natAbs : Nat) : Int) = p.num by omega]
  have e2 : ((q.num.natAbs * p.den : Nat) : Int) = q.num * p.den := by rw [Int.natCast_mul, show ((q.num.natAbs : Nat) : Int) = q.num by omega]
  omega
theorem pos_le {p x : Rat} (hp : 0 < p.num) (h : p ≤ x) : 0 < x.num := by
  have := (le_num p x).1 h
  have h1 := den_pos p
  have h2 := den_pos x
  have h3 := Int.mul_pos hp h2
  by_cases h4 : 0 < x.num
  · exact h4
  · have := Int.mul_nonneg (show 0 ≤ -x.num by omega) (Int.le_of_lt h1)
    rw [Int.neg_mul] at this
    omega

/-- out of the plain fact: where the lower number is positive -/
theorem best_pos {p q : Rat} (hp : 0 < p.num) (hpq : p ≤ q) {n d : Nat} (h : BestN p.num.natAbs p.den q.num.natAbs q.den n d) : BestR p q (mkRat n d) ∧ (mkRat n d).num = n ∧ (mkRat n d).den = d := by
  have hq := pos_le hp hpq
  obtain ⟨h1, h2, h3, h4, h5⟩ := h
  obtain ⟨e1, e2⟩ := rat_mk (n := (n : Int)) (d := d) (by omega) (by simpa using h4)
  have hn : 0 < n := by
    rcases Nat.eq_zero_or_pos n with rfl | hn
    · rw [Nat.zero_mul] at h1
      have := Nat.mul_pos (show 0 < p.num.natAbs by omega) h3
      omega
    · exact hn
  refine ⟨⟨?_, ?_, fun x k1 k2 => ?_⟩, e1, e2⟩
  · rw [le_nat hp (by omega), e1, e2]; simpa using h1
  · rw [le_nat (by omega) hq, e1, e2]; simpa using h2
  · have hx := pos_le hp k1
    have := h5 x.num.natAbs x.den (by have := x.den_nz; omega) ((le_nat hp hx).1 k1) ((le_nat hx hq).1 k2)
    rw [e1, e2]
    exact ⟨this.1, by simpa using this.2⟩
theorem neg_le {p q : Rat} : -p ≤ -q ↔ q ≤ p := by grind
theorem best_neg {p q s : Rat} (h : BestR (-q) (-p) s) : BestR p q (-s) := by
  obtain ⟨h1, h2, h3⟩ := h
  refine ⟨by grind, by grind, fun x k1 k2 => ?_⟩
  have := h3 (-x) (neg_le.2 k2) (neg_le.2 k1)
  rw [Rat.neg_den, Rat.neg_num, Int.natAbs_neg] at this
  rw [Rat.neg_den, Rat.neg_num, Int.natAbs_neg]
  exact this
theorem best_same (p : Rat) : BestR p p p := ⟨Rat.le_refl, Rat.le_refl, fun x k1 k2 => by rw [Rat.le_antisymm k2 k1]; exact ⟨Nat.le_refl _, Nat.le_refl _⟩⟩
theorem best_zero {p q : Rat} (hp : p ≤ 0) (hq : 0 ≤ q) : BestR p q 0 := ⟨hp, hq, fun x _ _ => ⟨by have := x.den_nz; show 1 ≤ _; omega, Nat.zero_le _⟩⟩
theorem best_in {p q s : Rat} (hpq : p ≤ q) (h : BestR p q s) (hp : InBound p) : InBound s := by
  obtain ⟨h1, h2⟩ := h.2.2 p Rat.le_refl hpq
  exact ⟨Nat.lt_of_le_of_lt h2 hp.1, Nat.lt_of_le_of_lt h1 hp.2⟩
theorem InBound.neg {q : Rat} (h : InBound q) : InBound (-q) := by
  unfold InBound
  rw [Rat.neg_num, Rat.neg_den, Int.natAbs_neg]
  exact h

/-- the call of simple, for numbers -/
theorem simple_rat {S : St} {a0 a1 a2 b0 b1 b2 : AV} {p q : Rat} (H : Has fns) (ha : RatIs S (.agg [a0, a1, a2]) p) (hb : RatIs S (.agg [b0, b1, b2]) q) (hp : InBound p) (hq : InBound q) (h0 : 0 < p.num) (hpq : p ≤ q) :
    wpf fns (.fn 53 [] []) [.agg [a0, a1, a2, b0, b1, b2]] S fun r S' => ∃ s, RatIs S' r s ∧ BestR p q s ∧ Same S S' := by
  obtain ⟨nv, dv, he, n1, n2⟩ := ha
  cases he
  obtain ⟨mv, ev, he, m1, m2⟩ := hb
  cases he
  have hq0 := pos_le h0 hpq
  have d1 := p.den_nz
  have d2 := q.den_nz
  refine wpf_mono (simple_spec H _ (Nat.le_refl _) n1 n2 m1 m2 hp.1 hp.2 hq.1 hq.2 (by omega) (by omega) ((le_nat h0 hq0).1 hpq)) ?_
  rintro _ S' ⟨xv, yv, n, d, rfl, hx, hy, hbest, hS⟩
  obtain ⟨hb, e1, e2⟩ := best_pos h0 hpq hbest
  refine ⟨mkRat n d, ⟨xv, yv, ?_, by rw [e1]; simpa using hx, by rw [e2]; exact hy⟩, hb, hS⟩
  rw [e1, decide_eq_false (by omega)]

theorem rsimple_spec {S : St} {a b : AV} {p q : Rat} (H : Has fns) (hL : Laid S) (ha : RatIs S a p) (hb : RatIs S b q) (hp : InBound p) (hq : InBound q) (hpq : p ≤ q) : wpf fns (.fn 12 [] []) [a, b] S fun r S' => ∃ v s, r = .tup [v, .int .i64 0] ∧ RatIs S' v s ∧ BestR p q s ∧ Same S S' := by
  obtain ⟨a0, a1, a2, rfl⟩ := ha.cells
  obtain ⟨b0, b1, b2, rfl⟩ := hb.cells
  refine wpf_fn H.f12 (by simp) ?_
  simp only [↓stU, stD, reduceEqDiff, ↓reduceIte]
  refine wsr ?_
  refine wpo_box (by simp only [↓stU, stD, reduceEqDiff, ↓reduceIte, cells_agg]; rfl) ?_
  intro S1 hS1 hn1 hc1
  refine wpo_box (by simp only [↓stU, stD, reduceEqDiff, ↓reduceIte, cells_agg]; rfl) ?_
  intro S2 hS2 hn2 hc2
  refine wpo_alloc ?_
  intro S3 hS3 hn3 hc3
  simp only [↓stU, stD, reduceEqDiff, ↓reduceIte]
  have g1 : S3.h.get S.nx = some (.cells [a0, a1, a2] false 0) := by rw [hS3.2 _ (by omega), hS2.2 _ (by omega)]; exact hc1
  have g2 : S3.h.get S1.nx = some (.cells [b0, b1, b2] false 0) := by rw [hS3.2 _ (by omega)]; exact hc2
  have hS := hS1.trans (hS2.trans hS3)
  refine wsr ?_
  simp only [↓stU, stD, reduceEqDiff, ↓reduceIte, ld3 g1, ld3 g2]
  refine wpo_call ?_
  simp only [↓stU, stD, reduceEqDiff, ↓reduceIte]
  refine wpf_mono (rcmp_spec H (hL.same hS) (ha.same hS) (hb.same hS) hp hq) ?_
  rintro _ S4 ⟨rfl, hS4⟩
  simp only [↓stU, stD, reduceEqDiff, ↓reduceIte, ex0, ex1]
  have k1 : S4.h.get S.nx = some (.cells [a0, a1, a2] false 0) := by rw [hS4.2 _ (by omega)]; exact g1
  have k2 : S4.h.get S1.nx = some (.cells [b0, b1, b2] false 0) := by rw [hS4.2 _ (by omega)]; exact g2
  have k3 : S4.h.get S2.nx = some (.cells [.bool false, .nilsl, .nilsl] false 0) := by rw [hS4.2 _ (by omega)]; exact hc3
  have l4 := hS4.1
  have e4 := hS.trans hS4
  have hne : ¬ (0 : Int) < cmpR p q := by
    unfold cmpR
    by_cases h : p < q
    · rw [if_pos h]; decide
    · rw [if_neg h, if_pos (Rat.le_antisymm hpq (Rat.not_lt.1 h))]; decide
  refine wss ?_
  simp only [↓stU, stD, reduceEqDiff, ↓reduceIte]
  refine wpc_non (by simp only [↓stU, stD, reduceEqDiff, ↓reduceIte]; rfl) (wpc_skip ?_)
  simp only [↓stU, stD, reduceEqDiff, ↓reduceIte]
  refine wss ?_
  simp only [↓stU, stD, reduceEqDiff, ↓reduceIte]
  refine wpc_non (by simp only [↓stU, stD, reduceEqDiff, ↓reduceIte, decide_eq_false hne]) (wpc_skip ?_)
  simp only [↓stU, stD, reduceEqDiff, ↓reduceIte]
  refine wss ?_
  simp only [↓stU, stD, reduceEqDiff, ↓reduceIte]
  by_cases h0 : cmpR p q = 0
  · refine wpc_yes (by simp only [↓stU, stD, reduceEqDiff, ↓reduceIte, decide_eq_true h0]) ?_
    refine wsr ?_
    simp only [↓stU, stD, reduceEqDiff, ↓reduceIte, ld3 k1]
    refine wpo_call ?_
    simp only [↓stU, stD, reduceEqDiff, ↓reduceIte]
    refine wpf_mono (clone_spec H (ha.same e4) hp.half.fits) ?_
    rintro w S5 ⟨hw, s5⟩
    obtain ⟨w0, w1, w2, rfl⟩ := hw.cells
    try simp only [↓stU, stD, reduceEqDiff, ↓reduceIte]
    have k5 : S5.h.get S2.nx = some (.cells [.bool false, .nilsl, .nilsl] false 0) := by rw [s5.2 _ (by omega)]; exact k3
    refine wpo_st (b := S2.nx) (by simp only [↓stU, stD, reduceEqDiff, ↓reduceIte]) (by simp only [↓stU, stD, reduceEqDiff, ↓reduceIte, cells_agg]; rfl) k5 rfl rfl ?_
    intro S6 s6 n6 b6
    simp only [↓stU, stD, reduceEqDiff, ↓reduceIte]
    refine wpc_ret ?_
    simp only [↓stU, stD, reduceEqDiff, ↓reduceIte, results_cell, ld3 b6]
    have hpq' := cmpR_eq0.1 h0
    refine ⟨_, p, rfl, hw.st k5 rfl s6 b6, ?_, s6.same (e4.trans s5) (by omega)⟩
    rw [← hpq']
    exact best_same p
  refine wpc_non (by simp only [↓stU, stD, reduceEqDiff, ↓reduceIte, decide_eq_false h0]) (wpc_skip ?_)
  simp only [↓stU, stD, reduceEqDiff, ↓reduceIte]
  refine wss ?_
  simp only [↓stU, stD, reduceEqDiff, ↓reduceIte, ld3 k1]
  refine wpo_call ?_
  simp only [↓stU, stD, reduceEqDiff, ↓reduceIte]
  refine wpf_mono (signOf_spec H (ha.same e4)) ?_
  rintro _ S5 ⟨rfl, s5⟩
  simp only [↓stU, stD, reduceEqDiff, ↓reduceIte]
  have j1 : S5.h.get S.nx = some (.cells [a0, a1, a2] false 0) := by rw [s5.2 _ (by omega)]; exact k1
  have j2 : S5.h.get S1.nx = some (.cells [b0, b1, b2] false 0) := by rw [s5.2 _ (by omega)]; exact k2
  have j3 : S5.h.get S2.nx = some (.cells [.bool false, .nilsl, .nilsl] false 0) := by rw [s5.2 _ (by omega)]; exact k3
  have l5 := s5.1
  have e5 := e4.trans s5
  by_cases h1 : 0 < p.num
  · have hs : sgn p = 2 := by unfold sgn; rw [if_neg (by omega), if_neg (by omega)]
    refine wpc_yes (by simp only [↓stU, stD, reduceEqDiff, ↓reduceIte, decide_eq_true hs]) ?_
    refine wsr ?_
    simp only [↓stU, stD, reduceEqDiff, ↓reduceIte, ld3 j1, ld3 j2, evQ_b6, join6_eq]
    refine wpo_call ?_
    simp only [↓stU, stD, reduceEqDiff, ↓reduceIte]
    refine wpf_mono (simple_rat H (ha.same e5) (hb.same e5) hp hq h1 hpq) ?_
    rintro w S6 ⟨x, hw, hbest, s6⟩
    try simp only [↓stU, stD, reduceEqDiff, ↓reduceIte]
    have ix := best_in hpq hbest hp
    refine wpo_call ?_
    simp only [↓stU, stD, reduceEqDiff, ↓reduceIte]
    refine wpf_mono (clone_spec H hw ix.half.fits) ?_
    rintro w' S7 ⟨hw', s7⟩
    obtain ⟨w0, w1, w2, rfl⟩ := hw'.cells
    try simp only [↓stU, stD, reduceEqDiff, ↓reduceIte]
    refine wpo_call ?_
    simp only [↓stU, stD, reduceEqDiff, ↓reduceIte]
    refine wpf_mono (bounded_spec H hw' ix) ?_
    rintro _ S8 ⟨rfl, hw8, s8⟩
    simp only [↓stU, stD, reduceEqDiff, ↓reduceIte, ex0, ex1]
    have s58 := s6.trans (s7.trans s8)
    have k8 : S8.h.get S2.nx = some (.cells [.bool false, .nilsl, .nilsl] false 0) := by rw [s58.2 _ (by omega)]; exact j3
    refine wpo_st (b := S2.nx) (by simp only [↓stU, stD, reduceEqDiff, ↓reduceIte]) (by simp only [↓stU, stD, reduceEqDiff, ↓reduceIte, cells_agg]; rfl) k8 rfl rfl ?_
    intro S9 s9 n9 b9
    simp only [↓stU, stD, reduceEqDiff, ↓reduceIte]
    refine wpc_ret ?_
    simp only [↓stU, stD, reduceEqDiff, ↓reduceIte, results_cell, ld3 b9]
    exact ⟨_, x, rfl, hw8.st k8 rfl s9 b9, hbest, s9.same (e5.trans s58) (by omega)⟩
  have hs : ¬ sgn p = 2 := by unfold sgn; split <;> (try split) <;> omega
  refine wpc_non (by simp only [↓stU, stD, reduceEqDiff, ↓reduceIte, decide_eq_false hs]) (wpc_skip ?_)
  simp only [↓stU, stD, reduceEqDiff, ↓reduceIte]
  refine wss ?_
  simp only [↓stU, stD, reduceEqDiff, ↓reduceIte, ld3 j2]
  refine wpo_call ?_
  simp only [↓stU, stD, reduceEqDiff, ↓reduceIte]
  refine wpf_mono (signOf_spec H (hb.same e5)) ?_
  rintro _ S6 ⟨rfl, s6⟩
  simp only [↓stU, stD, reduceEqDiff, ↓reduceIte]
  have i1 : S6.h.get S.nx = some (.cells [a0, a1, a2] false 0) := by rw [s6.2 _ (by omega)]; exact j1
  have i2 : S6.h.get S1.nx = some (.cells [b0, b1, b2] false 0) := by rw [s6.2 _ (by omega)]; exact j2
  have i3 : S6.h.get S2.nx = some (.cells [.bool false, .nilsl, .nilsl] false 0) := by rw [s6.2 _ (by omega)]; exact j3
  have l6 := s6.1
  have e6 := e5.trans s6
  by_cases h2 : q.num < 0
  · have hs : sgn q = 0 := by unfold sgn; rw [if_neg (by omega), if_pos h2]
    refine wpc_yes (by simp only [↓stU, stD, reduceEqDiff, ↓reduceIte, decide_eq_true hs]) ?_
    have t1 : S.nx < S6.nx := by omega
    have t2 : S1.nx < S6.nx := by omega
    have u1 : ¬ S.nx = S2.nx := by omega
    have u2 : ¬ S1.nx = S2.nx := by omega
    refine wpc_seq (wpc_mono (Q := fun o A' S' => o = .normal ∧ SameBut S2.nx S6 S' ∧ tmpV 4 A'.F = .ptr S2.nx 0 ∧ tmpV 5 A'.F = .int .i64 0 ∧ ∃ w0 w1 w2 s, S'.h.get S2.nx = some (.cells [w0, w1, w2] false 0) ∧ RatIs S' (.agg [w0, w1, w2]) s ∧ BestR p q s) ?_ ?_)
    · refine wpc_drd1 (fun c => c = S2.nx) ?_
      intro S7 s7
      simp only [↓stU, stD, reduceEqDiff, ↓reduceIte, ↓stV, stW, Nat.reduceAdd, ld3 i1, ld3 i2, t1, t2, u1, u2, not_false_eq_true, self_rat ha, self_rat hb]
      refine runD_call0 rfl ?_
      try simp only [↓stU, stD, reduceEqDiff, ↓reduceIte, ↓stV, stW, Nat.reduceAdd]
      refine wpf_mono (negative_spec H (hb.same (e6.trans s7)) hq.half.fits) ?_
      rintro x S8 ⟨hx, s8⟩
      refine ⟨s8, ?_⟩
      simp only [↓stU, stD, reduceEqDiff, ↓reduceIte, ↓stV, stW, Nat.reduceAdd, ld3 i1, ld3 i2, t1, t2, u1, u2, not_false_eq_true, self_rat ha, self_rat hb]
      refine runD_call0 rfl ?_
      try simp only [↓stU, stD, reduceEqDiff, ↓reduceIte, ↓stV, stW, Nat.reduceAdd]
      refine wpf_mono (negative_spec H (ha.same (e6.trans (s7.trans s8))) hp.half.fits) ?_
      rintro y S9 ⟨hy, s9⟩
      refine ⟨s9, ?_⟩
      obtain ⟨x0, x1, x2, rfl⟩ := hx.cells
      obtain ⟨y0, y1, y2, rfl⟩ := hy.cells
      simp only [↓stU, stD, reduceEqDiff, ↓reduceIte, ↓stV, stW, Nat.reduceAdd, evQ_b6, join6_eq, isLoad_build]
      refine runD_call0 rfl ?_
      try simp only [↓stU, stD, reduceEqDiff, ↓reduceIte, ↓stV, stW, Nat.reduceAdd]
      have hle : -q ≤ -p := neg_le.2 hpq
      refine wpf_mono (simple_rat H (hx.same s9) hy hq.neg hp.neg (by rw [Rat.neg_num]; omega) hle) ?_
      rintro w S10 ⟨z, hw, hbest, s10⟩
      refine ⟨s10, ?_⟩
      have iz := best_in hle hbest hq.neg
      try simp only [↓stU, stD, reduceEqDiff, ↓reduceIte, ↓stV, stW, Nat.reduceAdd]
      refine runD_call0 rfl ?_
      try simp only [↓stU, stD, reduceEqDiff, ↓reduceIte, ↓stV, stW, Nat.reduceAdd]
      refine wpf_mono (negative_spec H hw iz.half.fits) ?_
      rintro w' S11 ⟨hw', s11⟩
      refine ⟨s11, ?_⟩
      obtain ⟨w0, w1, w2, rfl⟩ := hw'.cells
      try simp only [↓stU, stD, reduceEqDiff, ↓reduceIte, ↓stV, stW, Nat.reduceAdd]
      refine runD_call0 rfl ?_
      try simp only [↓stU, stD, reduceEqDiff, ↓reduceIte, ↓stV, stW, Nat.reduceAdd]
      refine wpf_mono (bounded_spec H hw' iz.neg) ?_
      rintro _ S12 ⟨rfl, hw12, s12⟩
      refine ⟨s12, ?_⟩
      simp only [↓stU, stD, reduceEqDiff, ↓reduceIte, ↓stV, stW, Nat.reduceAdd, ex0, ex1]
      have s612 := s7.trans (s8.trans (s9.trans (s10.trans (s11.trans s12))))
      have k12 : S12.h.get S2.nx = some (.cells [.bool false, .nilsl, .nilsl] false 0) := by rw [s612.2 _ (by omega)]; exact i3
      refine runD_st0 (b := S2.nx) rfl (by simp only [↓stU, stD, reduceEqDiff, ↓reduceIte, ↓stV, stW, Nat.reduceAdd]) (by simp only [↓stU, stD, reduceEqDiff, ↓reduceIte, ↓stV, stW, Nat.reduceAdd, cells_agg]; rfl) k12 rfl rfl rfl ?_
      intro S13 s13 n13 b13
      simp only [↓stU, stD, reduceEqDiff, ↓reduceIte, ↓stV, stW, Nat.reduceAdd]
      exact ⟨sameBut_trans' s612 s13, w0, w1, w2, -z, b13, hw12.st k12 rfl s13 b13, best_neg hbest⟩
    rintro o ⟨F, inr⟩ S13 ⟨rfl, s13, p4, p5, w0, w1, w2, z, b13, hw, hbest⟩
    simp only at p4 p5
    try simp only [↓stU, stD, reduceEqDiff, ↓reduceIte]
    refine wpc_ret ?_
    simp only [↓stU, stD, reduceEqDiff, ↓reduceIte, results_cell, p4, p5, ld3 b13]
    exact ⟨_, z, rfl, hw, hbest, s13.same e6 (by omega)⟩
  have hs : ¬ sgn q = 0 := by unfold sgn; split <;> (try split) <;> omega
  refine wpc_non (by simp only [↓stU, stD, reduceEqDiff, ↓reduceIte, decide_eq_false hs]) (wpc_skip ?_)
  simp only [↓stU, stD, reduceEqDiff, ↓reduceIte]
  refine wsr ?_
  refine wpo_call ?_
  simp only [↓stU, stD, reduceEqDiff, ↓reduceIte]
  refine wpf_mono (zero_spec H) ?_
  rintro w S7 ⟨hw, s7⟩
  obtain ⟨w0, w1, w2, rfl⟩ := hw.cells
  try simp only [↓stU, stD, reduceEqDiff, ↓reduceIte]
  have k7 : S7.h.get S2.nx = some (.cells [.bool false, .nilsl, .nilsl] false 0) := by rw [s7.2 _ (by omega)]; exact i3
  refine wpo_st (b := S2.nx) (by simp only [↓stU, stD, reduceEqDiff, ↓reduceIte]) (by simp only [↓stU, stD, reduceEqDiff, ↓reduceIte, cells_agg]; rfl) k7 rfl rfl ?_
  intro S8 s8 n8 b8
  simp only [↓stU, stD, reduceEqDiff, ↓reduceIte]
  refine wpc_ret ?_
  simp only [↓stU, stD, reduceEqDiff, ↓reduceIte, results_cell, ld3 b8]
  refine ⟨_, 0, rfl, hw.st k7 rfl s8 b8, best_zero ?_ ?_, s8.same (e6.trans s7) (by omega)⟩
  · rw [le_num]; show p.num * 1 ≤ 0 * (p.den : Int); omega
  · rw [le_num]; show 0 * (q.den : Int) ≤ q.num * 1; omega
end Go.Ev.Gl

namespace Go.Ev.Gl
variable {fns : T AFn}

/-! ## A store into a block that holds no limbs -/
def noU : List AV → Bool
  | [] => true
  | .int .u32 _ :: _ => false
  | _ :: l => noU l
theorem noU_get : ∀ {cs : List AV} {i : Nat} {n : Int}, noU cs = true → cs[i]? ≠ some (.int .u32 n)
  | [], _, _, _ => by simp
  | x :: l, 0, n, h => by
    intro e
    simp at e
    subst e
    simp [noU] at h
  | x :: l, i + 1, n, h => by
    rw [List.getElem?_cons_succ]
    refine noU_get (cs := l) ?_
    cases x with
    | int k m => cases k <;> first | exact h | (simp [noU] at h)
    | _ => exact h
theorem LimbIs.stU {S S' : St} {v : AV} {l : List Nat} {b : Nat} {cs cs' : List AV} {o o' : Bool} {s s' : Nat} (h : LimbIs S v l) (hb : S.h.get b = some (.cells cs o s)) (hn : noU cs = true) (hs : SameBut b S S') (hb' : S'.h.get b = some (.cells cs' o' s')) : LimbIs S' v l := by
  rcases h with h | ⟨b1, off, cap, o1, cs1, rfl, hc, hlt, hcs, hel⟩
  · exact .inl h
  · by_cases e : b1 = b
    · subst e
      have h0 : l = [] := by
        cases l with
        | nil => rfl
        | cons x l =>
          have := hel 0 (Int.ofNat x) (by simp)
          unfold cellsAt at hcs
          rw [hb, osel_some] at hcs
          cases hcs
          exact absurd this (noU_get hn)
      subst h0
      refine .inr ⟨b1, off, cap, o1, cs', rfl, hc, Nat.lt_of_lt_of_le hlt hs.1, by unfold cellsAt; rw [hb', osel_some]; rfl, fun i x hi => by simp at hi⟩
    · refine .inr ⟨b1, off, cap, o1, cs1, rfl, hc, Nat.lt_of_lt_of_le hlt hs.1, ?_, hel⟩
      unfold cellsAt at hcs ⊢
      rw [hs.2 _ hlt e]
      exact hcs
theorem NatIs.stU {S S' : St} {v : AV} {n : Nat} {b : Nat} {cs cs' : List AV} {o o' : Bool} {s s' : Nat} (h : NatIs S v n) (hb : S.h.get b = some (.cells cs o s)) (hn : noU cs = true) (hs : SameBut b S S') (hb' : S'.h.get b = some (.cells cs' o' s')) : NatIs S' v n := by
  obtain ⟨l, h1, h2, h3⟩ := h
  exact ⟨l, h1.stU hb hn hs hb', h2, h3⟩
theorem RatIs.stU {S S' : St} {v : AV} {q : Rat} {b : Nat} {cs cs' : List AV} {o o' : Bool} {s s' : Nat} (h : RatIs S v q) (hb : S.h.get b = some (.cells cs o s)) (hn : noU cs = true) (hs : SameBut b S S') (hb' : S'.h.get b = some (.cells cs' o' s')) : RatIs S' v q := by
  obtain ⟨nv, dv, h1, h2, h3⟩ := h
  exact ⟨nv, dv, h1, h2.stU hb hn hs hb', h3.stU hb hn hs hb'⟩

/-! ## Remainders -/
theorem bin_rem_t (e : EqT) {a b : Int} (hb : b ≠ 0) : binV .rem e (.int .i64 a) (.int .i64 b) = some (.int .i64 (a.tmod b)) := by
  show intsBin .rem .i64 a .i64 b = _
  unfold intsBin
  rw [show isShift .rem = false from rfl, bsel_false, keq_refl, bsel_true]
  show iRem .i64 a b = _
  unfold iRem
  split
  · rename_i m n
    have h0 : Nat.beq n 0 = false := by
      rw [Bool.eq_false_iff]; intro h; rw [Nat.beq_eq] at h; subst h; exact hb rfl
    rw [h0, bsel_false]
    rfl
  · have h0 : ieq b (.ofNat 0) = false := by
      rw [Bool.eq_false_iff]; intro h; rw [ieq_eq] at h; exact hb (by simpa using h)
    rw [h0, bsel_false]

end Go.Ev.Gl
