/- Contracts (3): rational numbers, the statements' tools, the law. -/
import Derived.Test.YtffbfglbdghpaaaGreatDoorGl2
open Nat (reduceEqDiff reduceAdd)
set_option maxHeartbeats 4000000
set_option linter.unusedSimpArgs false
set_option linter.unusedVariables false
namespace Go.Ev.Gl
variable {fns : T AFn}

/-- short enough for a product of some such numbers -/
def Half (n : Nat) : Prop := n < B ^ 20000
def HalfR (q : Rat) : Prop := Half q.num.natAbs ∧ Half q.den
theorem Half.fits {n : Nat} (h : Half n) : Fits n := Fits.of h (by decide)
theorem Half.mono {n m : Nat} (h : Half m) (hn : n ≤ m) : Half n := Nat.lt_of_le_of_lt hn h
theorem pow_B_pos (k : Nat) : 0 < B ^ k := Nat.pow_pos B_pos
theorem mul_lt_pow {a b i j : Nat} (ha : a < B ^ i) (hb : b < B ^ j) : a * b < B ^ (i + j) := by
  rw [Nat.pow_add]
  rcases Nat.eq_zero_or_pos b with h | h
  · subst h; rw [Nat.mul_zero]; exact Nat.mul_pos (pow_B_pos i) (pow_B_pos j)
  · exact Nat.lt_of_lt_of_le (Nat.mul_lt_mul_of_pos_right ha h) (Nat.mul_le_mul_left _ (Nat.le_of_lt hb))
theorem add_lt_pow {a b i : Nat} (ha : a < B ^ i) (hb : b < B ^ i) : a + b < B ^ (i + 1) := by
  rw [Nat.pow_succ]
  have hB : B = 1000000000 := rfl
  have : B ^ i * 2 ≤ B ^ i * B := Nat.mul_le_mul_left _ (by omega)
  omega
theorem Half.mul {a b : Nat} (ha : Half a) (hb : Half b) : Fits (a * b) := Fits.of (mul_lt_pow ha hb) (by decide)
theorem HalfR.fits {q : Rat} (h : HalfR q) : FitsR q := ⟨h.1.fits, h.2.fits⟩
end Go.Ev.Gl

namespace Go.Ev.Gl
variable {fns : T AFn}

/-- both parts have at most 1024 limbs -/
def InBound (q : Rat) : Prop := q.num.natAbs < B ^ 1024 ∧ q.den < B ^ 1024
theorem norm_len_iff {l : List Nat} (h : Norm l) (K : Nat) : l.length ≤ K ↔ val l < B ^ K := by
  constructor
  · intro hl
    exact Nat.lt_of_lt_of_le (val_lt h.1) (Nat.pow_le_pow_right B_pos hl)
  · exact len_le h

end Go.Ev.Gl

namespace Go.Ev.Gl
variable {fns : T AFn}

/-! ## Which numbers are valid -/
open Classical in
noncomputable def chk (l : List Nat) : Int := if 1024 < l.length then 4 else if Norm l then 0 else 3
noncomputable def partsE (l m : List Nat) : Int := if chk l ≠ 0 then chk l else if chk m ≠ 0 then chk m else if m = [] then 6 else 0
noncomputable def rchk (s : Bool) (l m : List Nat) : Int := if partsE l m ≠ 0 then partsE l m else if (l = [] ∧ s = true) ∨ Nat.gcd (val l) (val m) ≠ 1 then 3 else 0

theorem chk_zero {l : List Nat} : chk l = 0 ↔ l.length ≤ 1024 ∧ Norm l := by
  unfold chk
  by_cases h1 : 1024 < l.length
  · rw [if_pos h1]; constructor
    · intro h; cases h
    · intro h; omega
  · rw [if_neg h1]
    by_cases h2 : Norm l
    · rw [if_pos h2]; exact ⟨fun _ => ⟨by omega, h2⟩, fun _ => rfl⟩
    · rw [if_neg h2]; exact ⟨fun h => (by cases h), fun h => absurd h.2 h2⟩
theorem partsE_zero {l m : List Nat} : partsE l m = 0 ↔ (l.length ≤ 1024 ∧ Norm l) ∧ (m.length ≤ 1024 ∧ Norm m) ∧ m ≠ [] := by
  unfold partsE
  by_cases h1 : chk l = 0
  · rw [if_neg (by simp [h1])]
    by_cases h2 : chk m = 0
    · rw [if_neg (by simp [h2])]
      rw [chk_zero] at h1 h2
      by_cases h3 : m = []
      · rw [if_pos h3]; exact ⟨fun h => (by cases h), fun h => absurd h3 h.2.2⟩
      · rw [if_neg h3]; exact ⟨fun _ => ⟨h1, h2, h3⟩, fun _ => rfl⟩
    · rw [if_pos h2]; exact ⟨fun h => absurd h h2, fun h => absurd (chk_zero.2 h.2.1) h2⟩
  · rw [if_pos h1]; exact ⟨fun h => absurd h h1, fun h => absurd (chk_zero.2 h.1) h1⟩
theorem rchk_zero {s : Bool} {l m : List Nat} : rchk s l m = 0 ↔ partsE l m = 0 ∧ ¬ (l = [] ∧ s = true) ∧ Nat.gcd (val l) (val m) = 1 := by
  unfold rchk
  by_cases h1 : partsE l m = 0
  · rw [if_neg (by simp [h1])]
    by_cases h2 : (l = [] ∧ s = true) ∨ Nat.gcd (val l) (val m) ≠ 1
    · rw [if_pos h2]
      refine ⟨fun h => (by cases h), fun h => ?_⟩
      rcases h2 with h2 | h2
      · exact absurd h2 h.2.1
      · exact absurd h.2.2 h2
    · rw [if_neg h2]
      refine ⟨fun _ => ⟨h1, fun h => h2 (.inl h), ?_⟩, fun _ => rfl⟩
      apply Classical.byContradiction
      intro h; exact h2 (.inr h)
  · rw [if_pos h1]; exact ⟨fun h => absurd h h1, fun h => absurd h.1 h1⟩

def ChkI (S : St) (v : AV) (l : List Nat) (k : Nat) (A : Act') (S' : St) : Prop :=
  A.inr = false ∧ S' = S ∧ ∃ i : Nat, i + k = l.length ∧ tmpV 0 A.F = v ∧ tmpV 8 A.F = v ∧ tmpV 9 A.F = .int .i64 ((l.length : Nat) : Int) ∧ tmpV 10 A.F = .int .i64 (i : Int) ∧ Small (l.take i)

theorem natCheck_spec {S : St} {v : AV} {l : List Nat} (H : Has fns) (h : LimbIs S v l) : wpf fns (.fn 59 [] []) [v] S fun r S' => r = .int .i64 (chk l) ∧ S' = S := by
  have hB : B = 1000000000 := rfl
  refine wpf_fn H.f59 (by simp) ?_
  simp only [↓stU, stD, reduceEqDiff, ↓reduceIte]
  refine wsr ?_
  simp only [↓stU, stD, reduceEqDiff, ↓reduceIte]
  refine wss ?_
  simp only [↓stU, stD, reduceEqDiff, ↓reduceIte, h.len]
  by_cases h1 : 1024 < l.length
  · refine wpc_yes (by simp only [↓stU, stD, reduceEqDiff, ↓reduceIte, decide_eq_true (show (1024 : Int) < ((l.length : Nat) : Int) by omega)]) ?_
    refine wsr ?_
    simp only [↓stU, stD, reduceEqDiff, ↓reduceIte]
    refine wpc_ret ?_
    simp only [↓stU, stD, reduceEqDiff, ↓reduceIte, chk, if_pos h1]
  refine wpc_non (by simp only [↓stU, stD, reduceEqDiff, ↓reduceIte, decide_eq_false (show ¬ (1024 : Int) < ((l.length : Nat) : Int) by omega)]) (wpc_skip ?_)
  simp only [↓stU, stD, reduceEqDiff, ↓reduceIte]
  have bad : ¬ Norm l → chk l = 3 := fun hn => by unfold chk; rw [if_neg h1, if_neg hn]
  refine wss ?_
  simp only [↓stU, stD, reduceEqDiff, ↓reduceIte, h.len]
  refine wpc_mono (Q := fun o A' S' => S' = S ∧ ((o = .normal ∧ A'.inr = false ∧ tmpV 0 A'.F = v ∧ Small l) ∨ (o = .ret ∧ tmpV 2 A'.F = .int .i64 3 ∧ ¬ Norm l))) ?_ ?_
  · refine wpc_block (wpc_loop (ChkI S v l) ?_ l.length _ _ ⟨rfl, rfl, 0, by omega, by simp only [↓stU, stD, reduceEqDiff, ↓reduceIte], by simp only [↓stU, stD, reduceEqDiff, ↓reduceIte], by simp only [↓stU, stD, reduceEqDiff, ↓reduceIte], by simp only [↓stU, stD, reduceEqDiff, ↓reduceIte], by simp [Small]⟩)
    rintro k ⟨F, inr⟩ S' ⟨q0, hS', i, hik, p0, p8, p9, p10, hsm⟩
    simp only at q0 p0 p8 p9 p10
    subst q0
    rw [hS']
    refine wsr ?_
    by_cases hi : i < l.length
    · simp only [↓stU, stD, reduceEqDiff, ↓reduceIte, p9, p10, decide_eq_true (show (i : Int) < ((l.length : Nat) : Int) by omega)]
      refine wpc_seq (wpc_yes (by simp only [↓stU, stD, reduceEqDiff, ↓reduceIte]) (wpc_skip ?_))
      simp only [↓stU, stD, reduceEqDiff, ↓reduceIte]
      have hld := h.ld hi
      rw [List.getD_eq_getElem?_getD] at hld
      have htk : l.take (i + 1) = l.take i ++ [l[i]?.getD 0] := by rw [List.take_add_one, List.getElem?_eq_getElem hi]; rfl
      have hmem : l[i]?.getD 0 ∈ l := by rw [List.getElem?_eq_getElem hi]; exact List.getElem_mem hi
      generalize l[i]?.getD 0 = x at *
      refine wpc_seq (wpc_block (wpc_seq (wpc_reg ?_)))
      simp only [↓stU, stD, reduceEqDiff, ↓reduceIte, p8, p10, h.iaddr hi, hld]
      refine wsr ?_
      simp only [↓stU, stD, reduceEqDiff, ↓reduceIte]
      by_cases hx : 1000000000 ≤ x
      · refine wpc_yes (by simp only [↓stU, stD, reduceEqDiff, ↓reduceIte, decide_eq_true (show (1000000000 : Int) ≤ (x : Int) by omega)]) ?_
        refine wsr ?_
        simp only [↓stU, stD, reduceEqDiff, ↓reduceIte]
        refine wpc_ret ?_
        simp only [↓stU, stD, reduceEqDiff, ↓reduceIte]
        exact .inr fun hn => by have := hn.1 x hmem; omega
      · refine wpc_non (by simp only [↓stU, stD, reduceEqDiff, ↓reduceIte, decide_eq_false (show ¬ (1000000000 : Int) ≤ (x : Int) by omega)]) (wpc_skip ?_)
        simp only [↓stU, stD, reduceEqDiff, ↓reduceIte]
        refine wpc_reg ?_
        have w1 : IntKind.i64.wrap ((i : Int) + 1) = ((i + 1 : Nat) : Int) := by rw [wrap_i64 (by omega) (by omega)]; omega
        simp only [↓stU, stD, reduceEqDiff, ↓reduceIte, p10, w1]
        refine ⟨k - 1, by omega, rfl, rfl, i + 1, by omega, by simp only [↓stU, stD, reduceEqDiff, ↓reduceIte, p0], by simp only [↓stU, stD, reduceEqDiff, ↓reduceIte, p8], by simp only [↓stU, stD, reduceEqDiff, ↓reduceIte, p9], by simp only [↓stU, stD, reduceEqDiff, ↓reduceIte], ?_⟩
        rw [htk]
        exact Small.append.2 ⟨hsm, small_one (by omega)⟩
    · simp only [↓stU, stD, reduceEqDiff, ↓reduceIte, p9, p10, decide_eq_false (show ¬ (i : Int) < ((l.length : Nat) : Int) by omega)]
      refine wpc_seq (wpc_non (by simp only [↓stU, stD, reduceEqDiff, ↓reduceIte]) (wpc_exit ?_))
      simp only [↓stU, stD, reduceEqDiff, ↓reduceIte, p0]
      rw [List.take_of_length_le (by omega)] at hsm
      exact .inl hsm
  rintro o ⟨F, inr⟩ S' ⟨hS', ⟨rfl, q0, p0, hsm⟩ | ⟨rfl, p2, hbad⟩⟩
  · simp only at q0 p0
    subst q0
    rw [hS']
    try simp only [↓stU, stD, reduceEqDiff, ↓reduceIte]
    have hnorm : Norm l ↔ l.getLast? ≠ some 0 := ⟨fun hn => hn.2, fun hn => ⟨hsm, hn⟩⟩
    refine wpc_seq (wpc_seq (wpc_mono (Q := fun o A' S' => o = .normal ∧ S' = S ∧ ∃ b, tmpV 28 A'.F = .bool b ∧ (b = true ↔ ¬ Norm l)) ?_ ?_))
    · refine wpc_reg ?_
      by_cases h0 : l = []
      · subst h0
        simp only [↓stU, stD, reduceEqDiff, ↓reduceIte, p0, h.len]
        exact ⟨false, by simp [norm_nil]⟩
      · have hp := List.length_pos_iff.2 h0
        obtain ⟨j, hj⟩ : ∃ j, l.length = j + 1 := ⟨l.length - 1, by omega⟩
        have hld := h.ld (i := j) (by omega)
        rw [List.getD_eq_getElem?_getD] at hld
        have hlast : l.getLast? = some (l[j]?.getD 0) := by
          rw [List.getLast?_eq_getElem?, hj, Nat.add_sub_cancel, List.getElem?_eq_getElem (by omega)]; rfl
        have w1 : IntKind.i64.wrap (((l.length : Nat) : Int) - 1) = (j : Int) := by rw [wrap_i64 (by omega) (by omega)]; omega
        simp only [↓stU, stD, reduceEqDiff, ↓reduceIte, p0, h.len, decide_eq_true (show (0 : Int) < ((l.length : Nat) : Int) by omega), w1, h.iaddr (show j < l.length by omega), hld]
        refine ⟨decide (((l[j]?.getD 0 : Nat) : Int) = 0), rfl, ?_⟩
        rw [hnorm, hlast]
        simp
    rintro o ⟨F, inr⟩ S' ⟨rfl, hS', b, p28, hb⟩
    simp only at p28
    rw [hS']
    try simp only [↓stU, stD, reduceEqDiff, ↓reduceIte]
    cases b with
    | true =>
      refine wpc_yes (by simp only [↓stU, stD, reduceEqDiff, ↓reduceIte, p28]) ?_
      refine wsr ?_
      simp only [↓stU, stD, reduceEqDiff, ↓reduceIte]
      refine wpc_ret ?_
      simp only [↓stU, stD, reduceEqDiff, ↓reduceIte, bad (hb.1 rfl)]
    | false =>
      refine wpc_non (by simp only [↓stU, stD, reduceEqDiff, ↓reduceIte, p28]) (wpc_skip ?_)
      try simp only [↓stU, stD, reduceEqDiff, ↓reduceIte]
      refine wsr ?_
      simp only [↓stU, stD, reduceEqDiff, ↓reduceIte]
      refine wpc_ret ?_
      have hn : Norm l := Classical.byContradiction fun h => by have := hb.2 h; cases this
      simp only [↓stU, stD, reduceEqDiff, ↓reduceIte, chk_zero.2 ⟨by omega, hn⟩]
  · simp only at p2
    rw [hS']
    simp only [↓stU, stD, reduceEqDiff, ↓reduceIte, p2, bad hbad]

theorem parts_spec {S : St} {a b : AV} {l m : List Nat} (H : Has fns) (ha : LimbIs S a l) (hb : LimbIs S b m) : wpf fns (.fn 41 [] []) [a, b] S fun r S' => r = .int .i64 (partsE l m) ∧ S' = S := by
  refine wpf_fn H.f41 (by simp) ?_
  simp only [↓stU, stD, reduceEqDiff, ↓reduceIte]
  refine wsr ?_
  simp only [↓stU, stD, reduceEqDiff, ↓reduceIte]
  refine wss ?_
  simp only [↓stU, stD, reduceEqDiff, ↓reduceIte]
  refine wpo_call ?_
  simp only [↓stU, stD, reduceEqDiff, ↓reduceIte]
  refine wpf_mono (natCheck_spec H ha) ?_
  rintro _ T ⟨rfl, hT⟩
  rw [hT]
  try simp only [↓stU, stD, reduceEqDiff, ↓reduceIte]
  refine wsr ?_
  simp only [↓stU, stD, reduceEqDiff, ↓reduceIte]
  by_cases h1 : chk l = 0
  · refine wpc_non (by simp only [↓stU, stD, reduceEqDiff, ↓reduceIte, h1]; rfl) (wpc_skip ?_)
    simp only [↓stU, stD, reduceEqDiff, ↓reduceIte]
    refine wss ?_
    simp only [↓stU, stD, reduceEqDiff, ↓reduceIte]
    refine wpo_call ?_
    simp only [↓stU, stD, reduceEqDiff, ↓reduceIte]
    refine wpf_mono (natCheck_spec H hb) ?_
    rintro _ T ⟨rfl, hT⟩
    rw [hT]
    try simp only [↓stU, stD, reduceEqDiff, ↓reduceIte]
    refine wsr ?_
    simp only [↓stU, stD, reduceEqDiff, ↓reduceIte]
    by_cases h2 : chk m = 0
    · refine wpc_non (by simp only [↓stU, stD, reduceEqDiff, ↓reduceIte, h2]; rfl) (wpc_skip ?_)
      simp only [↓stU, stD, reduceEqDiff, ↓reduceIte]
      refine wss ?_
      simp only [↓stU, stD, reduceEqDiff, ↓reduceIte, hb.len]
      by_cases h3 : m = []
      · refine wpc_yes (by simp only [↓stU, stD, reduceEqDiff, ↓reduceIte, h3]; rfl) ?_
        refine wsr ?_
        simp only [↓stU, stD, reduceEqDiff, ↓reduceIte]
        refine wpc_ret ?_
        have e : partsE l m = 6 := by unfold partsE; rw [if_neg (by simp [h1]), if_neg (by simp [h2]), if_pos h3]
        simp only [↓stU, stD, reduceEqDiff, ↓reduceIte, e]
      · have := List.length_pos_iff.2 h3
        refine wpc_non (by simp only [↓stU, stD, reduceEqDiff, ↓reduceIte, decide_eq_false (show ¬ ((m.length : Nat) : Int) = 0 by omega)]) (wpc_skip ?_)
        simp only [↓stU, stD, reduceEqDiff, ↓reduceIte]
        refine wsr ?_
        simp only [↓stU, stD, reduceEqDiff, ↓reduceIte]
        refine wpc_ret ?_
        simp only [↓stU, stD, reduceEqDiff, ↓reduceIte, partsE, h1, h2, h3]
        simp
    · refine wpc_yes (by simp only [↓stU, stD, reduceEqDiff, ↓reduceIte, decide_eq_true (show chk m ≠ 0 from h2)]) ?_
      refine wsr ?_
      simp only [↓stU, stD, reduceEqDiff, ↓reduceIte]
      refine wpc_ret ?_
      simp only [↓stU, stD, reduceEqDiff, ↓reduceIte, partsE, h1]
      simp [h2]
  · refine wpc_yes (by simp only [↓stU, stD, reduceEqDiff, ↓reduceIte, decide_eq_true (show chk l ≠ 0 from h1)]) ?_
    refine wsr ?_
    simp only [↓stU, stD, reduceEqDiff, ↓reduceIte]
    refine wpc_ret ?_
    simp only [↓stU, stD, reduceEqDiff, ↓reduceIte, partsE]
    simp [h1]

/-- a struct of a sign and two lists -/
def RawIs (S : St) (v : AV) (s : Bool) (l m : List Nat) : Prop := ∃ nv dv, v = .agg [.bool s, nv, dv] ∧ LimbIs S nv l ∧ LimbIs S dv m
theorem RawIs.same {S S' : St} {v : AV} {s : Bool} {l m : List Nat} (h : RawIs S v s l m) (hs : Same S S') : RawIs S' v s l m := by
  obtain ⟨nv, dv, h1, h2, h3⟩ := h
  exact ⟨nv, dv, h1, h2.same hs, h3.same hs⟩

theorem check_spec {S : St} {v : AV} {s : Bool} {l m : List Nat} (H : Has fns) (hL : Laid S) (h : RawIs S v s l m) : wpf fns (.fn 25 [] []) [v] S fun r S' => r = .int .i64 (rchk s l m) ∧ Same S S' := by
  obtain ⟨nv, dv, rfl, h1, h2⟩ := h
  refine wpf_fn H.f25 (by simp) ?_
  simp only [↓stU, stD, reduceEqDiff, ↓reduceIte]
  refine wsr ?_
  refine wpo_box (by simp only [↓stU, stD, reduceEqDiff, ↓reduceIte, cells_agg]; rfl) ?_
  intro S1 hS1 hn1 hb1
  simp only [↓stU, stD, reduceEqDiff, ↓reduceIte]
  refine wss ?_
  simp only [↓stU, stD, reduceEqDiff, ↓reduceIte, evQ_faddr, faddr_ptr, ld3_1 hb1, ld3_2 hb1]
  refine wpo_call ?_
  simp only [↓stU, stD, reduceEqDiff, ↓reduceIte]
  refine wpf_mono (parts_spec H (h1.same hS1) (h2.same hS1)) ?_
  rintro _ T ⟨rfl, hT⟩
  rw [hT]
  try simp only [↓stU, stD, reduceEqDiff, ↓reduceIte]
  refine wsr ?_
  simp only [↓stU, stD, reduceEqDiff, ↓reduceIte]
  by_cases hp : partsE l m = 0
  · refine wpc_non (by simp only [↓stU, stD, reduceEqDiff, ↓reduceIte, hp]; rfl) (wpc_skip ?_)
    simp only [↓stU, stD, reduceEqDiff, ↓reduceIte]
    obtain ⟨⟨q1, q2⟩, ⟨q3, q4⟩, q5⟩ := partsE_zero.1 hp
    have n1 : NatIs S nv (val l) := ⟨l, h1, q2, rfl⟩
    have n2 : NatIs S dv (val m) := ⟨m, h2, q4, rfl⟩
    have f1 : Fits (val l) := Fits.of (val_lt q2.1) (by omega)
    have f2 : Fits (val m) := Fits.of (val_lt q4.1) (by omega)
    have hr : rchk s l m = if (l = [] ∧ s = true) ∨ Nat.gcd (val l) (val m) ≠ 1 then 3 else 0 := by unfold rchk; rw [if_neg (by simp [hp])]
    refine wpc_seq (wpc_seq (wpc_mono (Q := fun o A' S' => o = .normal ∧ Same S S' ∧ ∃ b, tmpV 27 A'.F = .bool b ∧ (b = true ↔ (l = [] ∧ s = true) ∨ Nat.gcd (val l) (val m) ≠ 1)) ?_ ?_))
    · refine wpc_reg ?_
      have cop : ∀ (F : Fr), tmpV 20 F = .bool false → tmpV 22 F = nv → tmpV 24 F = dv → ¬ (l = [] ∧ s = true) → wpo fns [⟨(some 25),(.x (.call (.c (.fn 42 [] [])) [(.t 22),(.t 24)])),none,0⟩, ⟨(some 26),(.q (.un .not (.t 25))),(some (20,false)),0⟩, ⟨(some 27),(.q (.pick (.t 20) (.c (.bool true)) (.t 26))),none,0⟩] F S1 (fun F' S' => Same S S' ∧ ∃ b, tmpV 27 F' = .bool b ∧ (b = true ↔ (l = [] ∧ s = true) ∨ Nat.gcd (val l) (val m) ≠ 1)) := by
        intro F p20 p22 p24 hns
        refine wpo_call ?_
        simp only [↓stU, stD, reduceEqDiff, ↓reduceIte, p22, p24]
        refine wpf_mono (coprime_spec H (hL.same hS1) (n1.same hS1) (n2.same hS1) f1 f2) ?_
        rintro _ S2 ⟨rfl, hS2⟩
        simp only [↓stU, stD, reduceEqDiff, ↓reduceIte, p20, un_not]
        refine ⟨hS1.trans hS2, _, rfl, ?_⟩
        simp [hns]
      by_cases h0 : l = []
      · subst h0
        cases s with
        | true =>
          simp only [↓stU, stD, reduceEqDiff, ↓reduceIte, evQ_faddr, faddr_ptr, ld3_0 hb1, ld3_1 hb1, h1.len, List.length_nil, Int.natCast_zero, decide_true]
          exact ⟨hS1, true, rfl, by simp⟩
        | false =>
          simp only [↓stU, stD, reduceEqDiff, ↓reduceIte, evQ_faddr, faddr_ptr, ld3_0 hb1, ld3_1 hb1, ld3_2 hb1, h1.len, List.length_nil, Int.natCast_zero, decide_true]
          refine wpo_mono (cop _ (by simp only [↓stU, stD, reduceEqDiff, ↓reduceIte]) (by simp only [↓stU, stD, reduceEqDiff, ↓reduceIte]) (by simp only [↓stU, stD, reduceEqDiff, ↓reduceIte]) (by simp)) ?_
          rintro F S' ⟨k1, b, k2, k3⟩
          exact ⟨k1, b, k2, by simpa using k3⟩
      · have := List.length_pos_iff.2 h0
        simp only [↓stU, stD, reduceEqDiff, ↓reduceIte, evQ_faddr, faddr_ptr, ld3_0 hb1, ld3_1 hb1, ld3_2 hb1, h1.len, decide_eq_false (show ¬ ((l.length : Nat) : Int) = 0 by omega)]
        exact cop _ (by simp only [↓stU, stD, reduceEqDiff, ↓reduceIte]) (by simp only [↓stU, stD, reduceEqDiff, ↓reduceIte]) (by simp only [↓stU, stD, reduceEqDiff, ↓reduceIte]) (by simp [h0])
    rintro o ⟨F, inr⟩ S' ⟨rfl, hS', b, p27, hb⟩
    simp only at p27
    try simp only [↓stU, stD, reduceEqDiff, ↓reduceIte]
    cases b with
    | true =>
      refine wpc_yes (by simp only [↓stU, stD, reduceEqDiff, ↓reduceIte, p27]) ?_
      refine wsr ?_
      simp only [↓stU, stD, reduceEqDiff, ↓reduceIte]
      refine wpc_ret ?_
      simp only [↓stU, stD, reduceEqDiff, ↓reduceIte, hr, if_pos (hb.1 rfl)]
      exact hS'
    | false =>
      refine wpc_non (by simp only [↓stU, stD, reduceEqDiff, ↓reduceIte, p27]) (wpc_skip ?_)
      try simp only [↓stU, stD, reduceEqDiff, ↓reduceIte]
      refine wsr ?_
      simp only [↓stU, stD, reduceEqDiff, ↓reduceIte]
      refine wpc_ret ?_
      simp only [↓stU, stD, reduceEqDiff, ↓reduceIte, hr, if_neg (fun h => by have := hb.2 h; cases this)]
      exact hS'
  · refine wpc_yes (by simp only [↓stU, stD, reduceEqDiff, ↓reduceIte, decide_eq_true (show partsE l m ≠ 0 from hp)]) ?_
    refine wsr ?_
    simp only [↓stU, stD, reduceEqDiff, ↓reduceIte]
    refine wpc_ret ?_
    have e : rchk s l m = partsE l m := by unfold rchk; rw [if_pos hp]
    simp only [↓stU, stD, reduceEqDiff, ↓reduceIte, e]
    exact hS1
end Go.Ev.Gl

namespace Go.Ev.Gl
variable {fns : T AFn}

/-! ## How long results are -/
def Bnd (k : Nat) (q : Rat) : Prop := q.num.natAbs < B ^ k ∧ q.den < B ^ k
theorem Bnd.mono {k j : Nat} {q : Rat} (h : Bnd k q) (hk : k ≤ j) : Bnd j q := ⟨Nat.lt_of_lt_of_le h.1 (Nat.pow_le_pow_right B_pos hk), Nat.lt_of_lt_of_le h.2 (Nat.pow_le_pow_right B_pos hk)⟩
theorem mkRat_le {n : Int} {d : Nat} (hd : d ≠ 0) : (mkRat n d).num.natAbs ≤ n.natAbs ∧ (mkRat n d).den ≤ d := by
  have hg : 0 < Nat.gcd n.natAbs d := Nat.gcd_pos_of_pos_right _ (by omega)
  rw [← Rat.normalize_eq_mkRat hd, Rat.normalize_eq]
  refine ⟨?_, Nat.div_le_self ..⟩
  simp only
  rw [Int.natAbs_ediv_of_dvd (Int.ofNat_dvd_left.2 (Nat.gcd_dvd_left ..)), Int.natAbs_natCast]
  exact Nat.div_le_self ..
theorem Bnd.mul {i j : Nat} {p q : Rat} (hp : Bnd i p) (hq : Bnd j q) : Bnd (i + j) (p * q) := by
  rw [Rat.mul_def']
  obtain ⟨h1, h2⟩ := mkRat_le (n := p.num * q.num) (Nat.mul_ne_zero p.den_nz q.den_nz)
  rw [Int.natAbs_mul] at h1
  exact ⟨Nat.lt_of_le_of_lt h1 (mul_lt_pow hp.1 hq.1), Nat.lt_of_le_of_lt h2 (mul_lt_pow hp.2 hq.2)⟩
theorem Bnd.add {i j : Nat} {p q : Rat} (hp : Bnd i p) (hq : Bnd j q) : Bnd (i + j + 1) (p + q) := by
  rw [Rat.add_def']
  obtain ⟨h1, h2⟩ := mkRat_le (n := p.num * q.den + q.num * p.den) (Nat.mul_ne_zero p.den_nz q.den_nz)
  have h3 := Int.natAbs_add_le (p.num * q.den) (q.num * p.den)
  rw [Int.natAbs_mul, Int.natAbs_mul, Int.natAbs_natCast, Int.natAbs_natCast] at h3
  refine ⟨Nat.lt_of_le_of_lt (Nat.le_trans h1 h3) (add_lt_pow (mul_lt_pow hp.1 hq.2) (by rw [Nat.add_comm]; exact mul_lt_pow hq.1 hp.2)), Nat.lt_of_le_of_lt h2 (Nat.lt_of_lt_of_le (mul_lt_pow hp.2 hq.2) (Nat.pow_le_pow_right B_pos (by omega)))⟩
theorem Bnd.neg {i : Nat} {p : Rat} (hp : Bnd i p) : Bnd i (-p) := by
  unfold Bnd; rw [Rat.neg_num, Rat.neg_den, Int.natAbs_neg]; exact hp
theorem Bnd.inv {i : Nat} {p : Rat} (hp : Bnd i p) (h0 : p.num ≠ 0) : Bnd i p⁻¹ := by
  rw [← inv_rat h0]
  obtain ⟨h1, h2⟩ := rat_mk (n := sg (decide (p.num < 0)) p.den) (d := p.num.natAbs) (by omega) (by rw [sg_natAbs]; exact Nat.Coprime.symm p.reduced)
  unfold Bnd
  rw [h1, h2, sg_natAbs]
  exact ⟨hp.2, hp.1⟩
/-! ## A block that is laid late -/
section
variable {W : Nat → Prop} {h0 : T AB} {base : Nat} {d : Option Nat} {m i : Nat} {l : List AO} {F : Fr} {S : St} {last : Option Nat} {Q : Fr → St → List Pend → Prop}
theorem flush_one {j id : Nat} {bl : AB} {h : T AB} (ht : Nat.testBit m j = true) : flush m [⟨j, id, bl⟩] h = ([], h.set id (some bl)) := by
  unfold flush
  rw [show Nat.testBit m (Pend.mk j id bl).i = true from ht, bsel_true]
  rfl
end

/-! ## Structs of two numbers -/
/-! ## The product of a pair -/
end Go.Ev.Gl

namespace Go.Ev.Gl
variable {fns : T AFn}

/-- a number that Check accepts -/
theorem RatIs.raw {S : St} {v : AV} {q : Rat} (h : RatIs S v q) (hq : InBound q) : ∃ s l m, RawIs S v s l m ∧ rchk s l m = 0 := by
  obtain ⟨nv, dv, rfl, ⟨l1, i1, j1, v1⟩, ⟨l2, i2, j2, v2⟩⟩ := h
  refine ⟨_, l1, l2, ⟨nv, dv, rfl, i1, i2⟩, rchk_zero.2 ⟨partsE_zero.2 ⟨⟨(norm_len_iff j1 _).2 (by rw [v1]; exact hq.1), j1⟩, ⟨(norm_len_iff j2 _).2 (by rw [v2]; exact hq.2), j2⟩, ?_⟩, ?_, ?_⟩⟩
  · rintro rfl
    rw [val_nil] at v2
    exact q.den_nz v2.symm
  · rintro ⟨h1, h2⟩
    subst h1
    rw [val_nil] at v1
    have := of_decide_eq_true h2
    omega
  · rw [v1, v2]; exact q.reduced

end Go.Ev.Gl

namespace Go.Ev.Gl
variable {fns : T AFn}

theorem wpo_al {d m : Nat} {a : AlOp} {l : List AO} {F : Fr} {S : St} {Q : Fr → St → Prop} {v : AV} {bl : AB} (he : evA a F S.nx = some (v, bl)) (h : ∀ S1, Same S S1 → S1.nx = S.nx + 1 → S1.h.get S.nx = some bl → wpo fns l (putF (some d) F v) S1 Q) : wpo fns (⟨some d, .a a, none, m⟩ :: l) F S Q := by
  rw [wpo_aE]
  refine ⟨(v, bl), he, h _ (Same.alloc S _) rfl ?_⟩
  simp only
  rw [T.get_set, if_pos rfl]

end Go.Ev.Gl

namespace Go.Ev.Gl
variable {fns : T AFn}

/-! ## The rules, with what lies beyond the last block -/
/-! ## Signs -/
end Go.Ev.Gl

namespace Go.Ev.Gl
variable {fns : T AFn}

/-! ## The statements' own tools -/
end Go.Ev.Gl

namespace Go.Ev.Gl
variable {fns : T AFn}

end Go.Ev.Gl

namespace Go.Ev.Gl
variable {fns : T AFn}

end Go.Ev.Gl

namespace Go.Ev.Gl
variable {fns : T AFn}

/-! ## Comparing -/
end Go.Ev.Gl

namespace Go.Ev.Gl
variable {fns : T AFn}

/-! ## The whole numbers below and above -/
end Go.Ev.Gl

namespace Go.Ev.Gl
variable {fns : T AFn}

/-! ## Plain facts on comparing -/
end Go.Ev.Gl
