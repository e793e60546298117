/- Contracts (11): rational numbers, the statements' tools, the law. -/
import Derived.Test.YtoojnpjgnnpllaaGl10
open Nat (reduceEqDiff reduceAdd)
set_option maxHeartbeats 4000000
set_option linter.unusedSimpArgs false
set_option linter.unusedVariables false
namespace Go.Ev.Gl
variable {fns : T AFn}

/-! ## Sums, common divisors -/
def SmallW (l : List Int) : Prop := l.length ≤ 1000 ∧ ∀ x ∈ l, 0 ≤ x ∧ x ≤ 1073741824
theorem sum_take {l : List Int} {i : Nat} (hi : i < l.length) : (l.take (i + 1)).sum = (l.take i).sum + l.getD i 0 := by
  rw [List.take_add_one, List.sum_append, List.getD_eq_getElem?_getD, List.getElem?_eq_getElem hi]
  simp
theorem sum_small : ∀ {l : List Int}, (∀ x ∈ l, 0 ≤ x ∧ x ≤ 1073741824) → 0 ≤ l.sum ∧ l.sum ≤ (l.length : Int) * 1073741824
  | [], _ => ⟨by simp, by simp⟩
  | x :: l, h => by
    have h1 := h x (List.mem_cons_self ..)
    have h2 := sum_small (l := l) fun y hy => h y (List.mem_cons_of_mem _ hy)
    rw [List.sum_cons, List.length_cons]
    constructor
    · omega
    · have : ((l.length + 1 : Nat) : Int) * 1073741824 = (l.length : Int) * 1073741824 + 1073741824 := by omega
      omega
theorem SmallW.sum_le {l : List Int} (h : SmallW l) (i : Nat) : 0 ≤ (l.take i).sum ∧ (l.take i).sum ≤ 1073741824000 := by
  have h1 := sum_small (l := l.take i) fun x hx => h.2 x (List.mem_of_mem_take hx)
  have h2 : (l.take i).length ≤ 1000 := Nat.le_trans (List.length_take_le' ..) h.1
  omega
theorem SmallW.all {l : List Int} (h : SmallW l) : 0 ≤ l.sum ∧ l.sum ≤ 1073741824000 := by
  have := h.sum_le l.length
  rwa [List.take_length] at this
/-- a loop that sums up: the running sum in slot a, the place in slot b -/
def SumI (S : St) (l : List Int) (a b : Nat) (P : Fr → Prop) (k : Nat) (A : Act') (X : St) : Prop := A.inr = false ∧ Same S X ∧ ∃ i, i + k = l.length ∧ P A.F ∧ tmpV a A.F = .int .i64 (l.take i).sum ∧ tmpV b A.F = .int .i64 (i : Int)
theorem total_spec {S : St} {v : AV} {l : List Int} (H : Has fns) (hl : IsSl .i64 S v l) (hs : SmallW l) : wpf fns (.fn 133 [] []) [v] S fun r S' => r = .int .i64 l.sum ∧ Same S S' := by
  have hl1 := hs.1
  refine wpf_fn H.f133 (by simp) ?_
  simp only [↓sU, sD, reduceEqDiff, ↓reduceIte, reduceAdd]
  refine wsr ?_
  simp only [↓sU, sD, reduceEqDiff, ↓reduceIte, reduceAdd]
  refine wsr ?_
  simp only [↓sU, sD, reduceEqDiff, ↓reduceIte, reduceAdd]
  refine wpc_seq (wpc_mono (Q := fun o A' X => o = .normal ∧ SumI S l 3 8 (fun F => tmpV 6 F = v ∧ tmpV 7 F = .int .i64 ((l.length : Nat) : Int)) 0 A' X) (wpc_seq (wpc_reg ?_)) ?_)
  · simp only [↓sU, sD, reduceEqDiff, ↓reduceIte, reduceAdd, hl.len, Int.ofNat_eq_natCast]
    refine wpc_block (wpc_loop (SumI S l 3 8 (fun F => tmpV 6 F = v ∧ tmpV 7 F = .int .i64 ((l.length : Nat) : Int))) ?_ l.length _ _ ⟨rfl, Same.refl _, 0, by omega, ⟨by simp only [↓sU, sD, reduceEqDiff, ↓reduceIte, reduceAdd], by simp only [↓sU, sD, reduceEqDiff, ↓reduceIte, reduceAdd]⟩, by simp only [↓sU, sD, reduceEqDiff, ↓reduceIte, reduceAdd]; rfl, by simp only [↓sU, sD, reduceEqDiff, ↓reduceIte, reduceAdd]⟩)
    rintro k ⟨F, inr⟩ X ⟨q0, hX, i, hik, ⟨p6, p7⟩, p3, p8⟩
    simp only at q0 p3 p6 p7 p8
    subst q0
    refine wsr ?_
    simp only [↓sU, sD, reduceEqDiff, ↓reduceIte, reduceAdd, p7, p8]
    by_cases hlt : i < l.length
    · refine wpc_seq (wpc_yes (by simp only [↓sU, sD, reduceEqDiff, ↓reduceIte, reduceAdd, decide_eq_true (show (i : Int) < ((l.length : Nat) : Int) by omega)]) (wpc_skip ?_))
      try simp only [↓sU, sD, reduceEqDiff, ↓reduceIte, reduceAdd]
      have ia := (hl.same hX).iaddr hlt
      have la := (hl.same hX).ld hlt
      have hb := hs.sum_le (i + 1)
      have w1 : IntKind.i64.wrap ((i : Int) + 1) = ((i + 1 : Nat) : Int) := by rw [wrap_i64 (by omega) (by omega)]; omega
      have w2 : IntKind.i64.wrap ((l.take i).sum + l.getD i 0) = (l.take (i + 1)).sum := by rw [← sum_take hlt]; exact wrap_i64 (by omega) (by omega)
      refine wpc_seq (wpc_block (wpc_seq (wpc_reg ?_)))
      simp only [↓sU, sD, reduceEqDiff, ↓reduceIte, reduceAdd, p6, p8, natOf_cast, ia, la]
      refine wpc_reg ?_
      simp only [↓sU, sD, reduceEqDiff, ↓reduceIte, reduceAdd, p3, w2]
      refine wpc_reg ?_
      simp only [↓sU, sD, reduceEqDiff, ↓reduceIte, reduceAdd, p8, w1]
      exact ⟨k - 1, by omega, rfl, hX, i + 1, by omega, ⟨by simp only [↓sU, sD, reduceEqDiff, ↓reduceIte, reduceAdd, p6], by simp only [↓sU, sD, reduceEqDiff, ↓reduceIte, reduceAdd, p7]⟩, by simp only [↓sU, sD, reduceEqDiff, ↓reduceIte, reduceAdd], by simp only [↓sU, sD, reduceEqDiff, ↓reduceIte, reduceAdd]⟩
    · refine wpc_seq (wpc_non (by simp only [↓sU, sD, reduceEqDiff, ↓reduceIte, reduceAdd, decide_eq_false (show ¬ (i : Int) < ((l.length : Nat) : Int) by omega)]) (wpc_exit ?_))
      simp only [↓sU, sD, reduceEqDiff, ↓reduceIte, reduceAdd]
      have hk0 : k = 0 := by omega
      subst hk0
      exact ⟨rfl, hX, i, hik, ⟨by simp only [↓sU, sD, reduceEqDiff, ↓reduceIte, reduceAdd, p6], by simp only [↓sU, sD, reduceEqDiff, ↓reduceIte, reduceAdd, p7]⟩, by simp only [↓sU, sD, reduceEqDiff, ↓reduceIte, reduceAdd, p3], by simp only [↓sU, sD, reduceEqDiff, ↓reduceIte, reduceAdd, p8]⟩
  rintro o ⟨F, inr⟩ X ⟨rfl, q0, hX, i, hik, _, p3, p8⟩
  simp only at q0 p3
  subst q0
  rw [List.take_of_length_le (by omega)] at p3
  try simp only [↓sU, sD, reduceEqDiff, ↓reduceIte, reduceAdd]
  refine wsr ?_
  simp only [↓sU, sD, reduceEqDiff, ↓reduceIte, reduceAdd, p3]
  refine wpc_ret ?_
  simp only [↓sU, sD, reduceEqDiff, ↓reduceIte, reduceAdd]
  exact hX
theorem radix_spec {S : St} {c : AV} {cs : List AV} {x : PNode} (H : Has fns) (hc : c.cells = some []) (hx : NodeE S cs x) (hs : SmallW x.weights) : wpf fns (.fn 134 [] []) [c, .agg cs] S fun r S' => r = .int .i64 x.weights.sum ∧ Same S S' := by
  obtain ⟨xa, xw, xp, rfl, hxa, hxw, hxp⟩ := hx
  have hl1 := hs.1
  refine wpf_fn H.f134 (by simp) ?_
  simp only [↓sU, sD, reduceEqDiff, ↓reduceIte, reduceAdd]
  refine wsr ?_
  refine wpo_box (cs := []) (by simp only [↓sU, sD, reduceEqDiff, ↓reduceIte, reduceAdd]; exact hc) ?_
  intro S0 s0 n0 c0
  refine wpo_box (by simp only [↓sU, sD, reduceEqDiff, ↓reduceIte, reduceAdd]; exact cells_agg _) ?_
  intro S1 s1 n1 c1
  simp only [↓sU, sD, reduceEqDiff, ↓reduceIte, reduceAdd]
  have sS := s0.trans s1
  have hl := hxw.same sS
  refine wsr ?_
  simp only [↓sU, sD, reduceEqDiff, ↓reduceIte, reduceAdd]
  refine wpc_seq (wpc_mono (Q := fun o A' X => o = .normal ∧ SumI S1 x.weights 5 11 (fun F => tmpV 9 F = xw ∧ tmpV 10 F = .int .i64 ((x.weights.length : Nat) : Int)) 0 A' X) (wpc_seq (wpc_reg ?_)) ?_)
  · simp only [↓sU, sD, reduceEqDiff, ↓reduceIte, reduceAdd, evQ_faddr, faddr_ptr, ld6_4 c1, hl.len, Int.ofNat_eq_natCast]
    refine wpc_block (wpc_loop (SumI S1 x.weights 5 11 (fun F => tmpV 9 F = xw ∧ tmpV 10 F = .int .i64 ((x.weights.length : Nat) : Int))) ?_ x.weights.length _ _ ⟨rfl, Same.refl _, 0, by omega, ⟨by simp only [↓sU, sD, reduceEqDiff, ↓reduceIte, reduceAdd], by simp only [↓sU, sD, reduceEqDiff, ↓reduceIte, reduceAdd]⟩, by simp only [↓sU, sD, reduceEqDiff, ↓reduceIte, reduceAdd]; rfl, by simp only [↓sU, sD, reduceEqDiff, ↓reduceIte, reduceAdd]⟩)
    rintro k ⟨F, inr⟩ X ⟨q0, hX, i, hik, ⟨p9, p10⟩, p5, p11⟩
    simp only at q0 p5 p9 p10 p11
    subst q0
    refine wsr ?_
    simp only [↓sU, sD, reduceEqDiff, ↓reduceIte, reduceAdd, p10, p11]
    by_cases hlt : i < x.weights.length
    · refine wpc_seq (wpc_yes (by simp only [↓sU, sD, reduceEqDiff, ↓reduceIte, reduceAdd, decide_eq_true (show (i : Int) < ((x.weights.length : Nat) : Int) by omega)]) (wpc_skip ?_))
      try simp only [↓sU, sD, reduceEqDiff, ↓reduceIte, reduceAdd]
      have ia := (hl.same hX).iaddr hlt
      have la := (hl.same hX).ld hlt
      have hb := hs.sum_le (i + 1)
      have w1 : IntKind.i64.wrap ((i : Int) + 1) = ((i + 1 : Nat) : Int) := by rw [wrap_i64 (by omega) (by omega)]; omega
      have w2 : IntKind.i64.wrap ((x.weights.take i).sum + x.weights.getD i 0) = (x.weights.take (i + 1)).sum := by rw [← sum_take hlt]; exact wrap_i64 (by omega) (by omega)
      refine wpc_seq (wpc_block (wpc_seq (wpc_reg ?_)))
      simp only [↓sU, sD, reduceEqDiff, ↓reduceIte, reduceAdd, p9, p11, natOf_cast, ia, la]
      refine wpc_reg ?_
      simp only [↓sU, sD, reduceEqDiff, ↓reduceIte, reduceAdd, p5, w2]
      refine wpc_reg ?_
      simp only [↓sU, sD, reduceEqDiff, ↓reduceIte, reduceAdd, p11, w1]
      exact ⟨k - 1, by omega, rfl, hX, i + 1, by omega, ⟨by simp only [↓sU, sD, reduceEqDiff, ↓reduceIte, reduceAdd, p9], by simp only [↓sU, sD, reduceEqDiff, ↓reduceIte, reduceAdd, p10]⟩, by simp only [↓sU, sD, reduceEqDiff, ↓reduceIte, reduceAdd], by simp only [↓sU, sD, reduceEqDiff, ↓reduceIte, reduceAdd]⟩
    · refine wpc_seq (wpc_non (by simp only [↓sU, sD, reduceEqDiff, ↓reduceIte, reduceAdd, decide_eq_false (show ¬ (i : Int) < ((x.weights.length : Nat) : Int) by omega)]) (wpc_exit ?_))
      simp only [↓sU, sD, reduceEqDiff, ↓reduceIte, reduceAdd]
      have hk0 : k = 0 := by omega
      subst hk0
      exact ⟨rfl, hX, i, hik, ⟨by simp only [↓sU, sD, reduceEqDiff, ↓reduceIte, reduceAdd, p9], by simp only [↓sU, sD, reduceEqDiff, ↓reduceIte, reduceAdd, p10]⟩, by simp only [↓sU, sD, reduceEqDiff, ↓reduceIte, reduceAdd, p5], by simp only [↓sU, sD, reduceEqDiff, ↓reduceIte, reduceAdd, p11]⟩
  rintro o ⟨F, inr⟩ X ⟨rfl, q0, hX, i, hik, _, p5, p11⟩
  simp only at q0 p5
  subst q0
  rw [List.take_of_length_le (by omega)] at p5
  try simp only [↓sU, sD, reduceEqDiff, ↓reduceIte, reduceAdd]
  refine wsr ?_
  simp only [↓sU, sD, reduceEqDiff, ↓reduceIte, reduceAdd, p5]
  refine wpc_ret ?_
  simp only [↓sU, sD, reduceEqDiff, ↓reduceIte, reduceAdd]
  exact sS.trans hX
end Go.Ev.Gl

namespace Go.Ev.Gl
variable {fns : T AFn}

/-! ## Common divisors, multiples, digits -/
theorem gcd34_spec {S : St} {x y : Nat} (H : Has fns) (hx : x ≤ 9223372036854775807) (hy : y ≤ 9223372036854775807) : wpf fns (.fn 123 [] []) [.int .i64 (x : Int), .int .i64 (y : Int)] S fun r S' => r = .int .i64 ((Nat.gcd x y : Nat) : Int) ∧ Same S S' := by
  refine wpf_fn H.f123 (by simp) ?_
  try simp only [↓sU, sD, reduceEqDiff, ↓reduceIte, reduceAdd]
  refine wsr ?_
  try simp only [↓sU, sD, reduceEqDiff, ↓reduceIte, reduceAdd]
  refine wpc_seq (wpc_mono (Q := fun o A' S' => o = .normal ∧ Same S S' ∧ tmpV 0 A'.F = .int .i64 ((Nat.gcd x y : Nat) : Int)) ?_ ?_)
  · refine wpc_block (wpc_loop (KgI S (Nat.gcd x y)) ?_ y _ _ ⟨rfl, rfl, Nat.le_refl _, x, y, by simp only [↓sU, sD, reduceEqDiff, ↓reduceIte, reduceAdd], by simp only [↓sU, sD, reduceEqDiff, ↓reduceIte, reduceAdd], hx, hy, rfl, rfl⟩)
    rintro k ⟨F, inr⟩ S' ⟨q0, hh, hnx, a, b, p0, p1, ha, hb, hg, rfl⟩
    simp only at q0 p0 p1
    subst q0
    refine wss ?_
    simp only [↓sU, sD, reduceEqDiff, ↓reduceIte, reduceAdd, p1]
    rcases Nat.eq_zero_or_pos k with h0 | hkp
    · subst h0
      refine wpc_non (by simp only [↓sU, sD, reduceEqDiff, ↓reduceIte, reduceAdd]; rfl) (wpc_exit ?_)
      rw [Nat.gcd_zero_right] at hg
      rw [← hg]
      simp only [↓sU, sD, reduceEqDiff, ↓reduceIte, reduceAdd, p0]
      exact same_of_h hh hnx
    · refine wpc_yes (by simp only [↓sU, sD, reduceEqDiff, ↓reduceIte, reduceAdd, decide_eq_true (show (k : Int) ≠ 0 by omega)]) (wpc_skip ?_)
      try simp only [↓sU, sD, reduceEqDiff, ↓reduceIte, reduceAdd]
      have hrem := bin_rem_nat (.p .int) .i64 (t := a) (d := k) hkp
      refine wpc_block (wpc_drq ?_)
      simp only [↓sU, sD, reduceEqDiff, ↓reduceIte, reduceAdd, p0, p1, hrem]
      refine ⟨a % k, Nat.mod_lt _ hkp, rfl, hh, by simp; omega, k, a % k, by simp only [↓sU, sD, reduceEqDiff, ↓reduceIte, reduceAdd], by simp only [↓sU, sD, reduceEqDiff, ↓reduceIte, reduceAdd], hb, by have := Nat.mod_lt a hkp; omega, ?_, rfl⟩
      rw [← hg, Nat.gcd_comm a k, Nat.gcd_rec k a, Nat.gcd_comm]
  · rintro o ⟨F, inr⟩ S' ⟨rfl, hS, p0⟩
    simp only at p0
    try simp only [↓sU, sD, reduceEqDiff, ↓reduceIte, reduceAdd]
    refine wsr ?_
    simp only [↓sU, sD, reduceEqDiff, ↓reduceIte, reduceAdd, p0]
    refine wpc_ret ?_
    simp only [↓sU, sD, reduceEqDiff, ↓reduceIte, reduceAdd]
    exact hS
/-- the least common multiple, if it is not above the limit -/
def lcmO (z p : Nat) : Option Nat := if 1000000000000000 < z / Nat.gcd z p * p then none else some (z / Nat.gcd z p * p)
theorem gt_div {x y m : Nat} (hy : 0 < y) : m / y < x ↔ m < x * y := by
  rw [Nat.div_lt_iff_lt_mul hy]
/-- the place at which a digit falls -/
def pickN : List Int → Int → Nat
  | [], _ => 0
  | w :: l, d => if d < w then 0 else pickN l (d - w) + 1
theorem pickN_lt : ∀ {l : List Int} {d : Int}, 0 ≤ d → d < l.sum → pickN l d < l.length
  | [], d, h0, h => by simp at h; omega
  | w :: l, d, h0, h => by
    simp only [pickN]
    rw [List.sum_cons] at h
    split
    · simp
    · have := pickN_lt (l := l) (d := d - w) (by omega) (by omega)
      rw [List.length_cons]; omega
def PicI (S : St) (l : List Int) (d0 : Int) (P : Fr → Prop) (a b : Nat) (k : Nat) (A : Act') (X : St) : Prop := A.inr = false ∧ Same S X ∧ ∃ i d, i + k = l.length ∧ P A.F ∧ 0 ≤ d ∧ d ≤ d0 ∧ d < (l.drop i).sum ∧ pickN l d0 = i + pickN (l.drop i) d ∧ tmpV a A.F = .int .i64 d ∧ tmpV b A.F = .int .i64 (i : Int)
theorem drop_cons' {l : List Int} {i : Nat} (hi : i < l.length) : l.drop i = l.getD i 0 :: l.drop (i + 1) := by
  rw [List.drop_eq_getElem_cons hi, List.getD_eq_getElem?_getD, List.getElem?_eq_getElem hi]; rfl
theorem pick_spec {S : St} {v : AV} {l : List Int} {d : Int} (H : Has fns) (hl : IsSl .i64 S v l) (hs : SmallW l) (h0 : 0 ≤ d) (hd : d < l.sum) : wpf fns (.fn 205 [] []) [v, .int .i64 d] S fun r S' => r = .int .i64 ((pickN l d : Nat) : Int) ∧ Same S S' := by
  have hl1 := hs.1
  have hall := hs.all
  refine wpf_fn H.f205 (by simp) ?_
  simp only [↓sU, sD, reduceEqDiff, ↓reduceIte, reduceAdd]
  refine wsr ?_
  simp only [↓sU, sD, reduceEqDiff, ↓reduceIte, reduceAdd]
  refine wpc_seq (wpc_mono (Q := fun o A' X => o = .ret ∧ Same S X ∧ tmpV 4 A'.F = .int .i64 ((pickN l d : Nat) : Int)) (wpc_seq (wpc_reg ?_)) ?_)
  · simp only [↓sU, sD, reduceEqDiff, ↓reduceIte, reduceAdd, hl.len, Int.ofNat_eq_natCast]
    refine wpc_block (wpc_loop (PicI S l d (fun F => tmpV 7 F = v ∧ tmpV 8 F = .int .i64 ((l.length : Nat) : Int)) 1 9) ?_ l.length _ _ ⟨rfl, Same.refl _, 0, d, by omega, ⟨by simp only [↓sU, sD, reduceEqDiff, ↓reduceIte, reduceAdd], by simp only [↓sU, sD, reduceEqDiff, ↓reduceIte, reduceAdd]⟩, h0, by omega, by rw [List.drop_zero]; exact hd, by rw [List.drop_zero, Nat.zero_add], by simp only [↓sU, sD, reduceEqDiff, ↓reduceIte, reduceAdd], by simp only [↓sU, sD, reduceEqDiff, ↓reduceIte, reduceAdd]⟩)
    rintro k ⟨F, inr⟩ X ⟨q0, hX, i, d', hik, ⟨p7, p8⟩, hd0, hd1, hd2, he, p1, p9⟩
    simp only at q0 p1 p7 p8 p9
    subst q0
    have hlt : i < l.length := by
      rcases Nat.lt_or_ge i l.length with h | h
      · exact h
      · rw [List.drop_of_length_le h] at hd2; simp at hd2; omega
    refine wsr ?_
    simp only [↓sU, sD, reduceEqDiff, ↓reduceIte, reduceAdd, p8, p9]
    refine wpc_seq (wpc_yes (by simp only [↓sU, sD, reduceEqDiff, ↓reduceIte, reduceAdd, decide_eq_true (show (i : Int) < ((l.length : Nat) : Int) by omega)]) (wpc_skip ?_))
    try simp only [↓sU, sD, reduceEqDiff, ↓reduceIte, reduceAdd]
    have ia := (hl.same hX).iaddr hlt
    have la := (hl.same hX).ld hlt
    have hmem : l.getD i 0 ∈ l := by rw [List.getD_eq_getElem?_getD, List.getElem?_eq_getElem hlt]; exact List.getElem_mem _
    have hw := hs.2 _ hmem
    rw [drop_cons' hlt] at hd2 he
    rw [List.sum_cons] at hd2
    simp only [pickN] at he
    have w1 : IntKind.i64.wrap ((i : Int) + 1) = ((i + 1 : Nat) : Int) := by rw [wrap_i64 (by omega) (by omega)]; omega
    have w2 : IntKind.i64.wrap (d' - l.getD i 0) = d' - l.getD i 0 := wrap_i64 (by omega) (by omega)
    refine wpc_seq (wpc_block (wpc_seq (wpc_reg ?_)))
    simp only [↓sU, sD, reduceEqDiff, ↓reduceIte, reduceAdd, p7, p9, natOf_cast, ia, la]
    refine wss ?_
    simp only [↓sU, sD, reduceEqDiff, ↓reduceIte, reduceAdd, p1]
    by_cases hlw : d' < l.getD i 0
    · rw [if_pos hlw] at he
      refine wpc_yes (by simp only [↓sU, sD, reduceEqDiff, ↓reduceIte, reduceAdd, decide_eq_true hlw]) ?_
      refine wsr ?_
      simp only [↓sU, sD, reduceEqDiff, ↓reduceIte, reduceAdd]
      refine wpc_ret ?_
      simp only [↓sU, sD, reduceEqDiff, ↓reduceIte, reduceAdd]
      exact ⟨hX, by rw [he]; rfl⟩
    · rw [if_neg hlw] at he
      refine wpc_non (by simp only [↓sU, sD, reduceEqDiff, ↓reduceIte, reduceAdd, decide_eq_false hlw]) (wpc_skip ?_)
      try simp only [↓sU, sD, reduceEqDiff, ↓reduceIte, reduceAdd]
      refine wpc_reg ?_
      simp only [↓sU, sD, reduceEqDiff, ↓reduceIte, reduceAdd, p1, w2]
      refine wpc_reg ?_
      simp only [↓sU, sD, reduceEqDiff, ↓reduceIte, reduceAdd, p9, w1]
      exact ⟨k - 1, by omega, rfl, hX, i + 1, d' - l.getD i 0, by omega, ⟨by simp only [↓sU, sD, reduceEqDiff, ↓reduceIte, reduceAdd, p7], by simp only [↓sU, sD, reduceEqDiff, ↓reduceIte, reduceAdd, p8]⟩, by omega, by omega, by omega, by omega, by simp only [↓sU, sD, reduceEqDiff, ↓reduceIte, reduceAdd], by simp only [↓sU, sD, reduceEqDiff, ↓reduceIte, reduceAdd]⟩
  rintro o ⟨F, inr⟩ X ⟨rfl, hX, p4⟩
  simp only at p4
  simp only [↓sU, sD, reduceEqDiff, ↓reduceIte, reduceAdd, p4]
  exact hX
end Go.Ev.Gl

namespace Go.Ev.Gl
variable {fns : T AFn}

/-! ## Who decides at a node -/
theorem wpf_first {id : Nat} {v : AV} {args : List AV} {S : St} {Q : AV → St → Prop} (h : wpf fns (.fn id [] []) (v :: args) S Q) : wpf fns (.fn id [v] []) args S Q := by
  obtain ⟨n, r, S', h1, h2⟩ := h
  cases n with
  | zero => cases h1
  | succ n => exact ⟨n + 1, r, S', h1, h2⟩
structure GoodK (g : PGame) : Prop where
  good : GoodG g
  knd : ∀ i, i < g.nodes.length → (nodeAt g i).kind = 1 ∨ (nodeAt g i).kind = 2 ∨ (nodeAt g i).kind = 3
  chn : ∀ i, i < g.nodes.length → (nodeAt g i).kind = 1 → (∀ w ∈ (nodeAt g i).weights, 1 ≤ w ∧ w ≤ 1000) ∧ 1 ≤ (nodeAt g i).next.length ∧ (nodeAt g i).next.length ≤ 60
  mov : ∀ i, i < g.nodes.length → (nodeAt g i).kind = 2 → 1 ≤ (nodeAt g i).next.length ∧ (nodeAt g i).next.length ≤ 10
  fin : ∀ i, i < g.nodes.length → (nodeAt g i).kind = 3 → (nodeAt g i).next = []
  prs : 1 ≤ g.players ∧ g.players ≤ 4
  pay : ∀ i, i < g.nodes.length → (nodeAt g i).kind = 3 → (((nodeAt g i).pay.length : Nat) : Int) = g.players
theorem goodK_of {g : PGame} (h : formE g = 0) : GoodK g := by
  have G := good_of h
  unfold formE at h
  split at h
  · cases h
  rename_i hb
  split at h
  · rename_i h1; exact absurd h h1
  rename_i hN
  have hN := Decidable.not_not.1 hN
  unfold badG at hb
  have hE : ∀ i, i < g.nodes.length → nodeE g.players g.infos.length (nodeAt g i) = 0 := fun i hi => nodesE_all hN _ (List.mem_of_getElem? (nodeAt_some hi))
  refine ⟨G, fun i hi => ?_, fun i hi hk => ?_, fun i hi hk => ?_, fun i hi hk => ?_, by omega, fun i hi hk => ?_⟩
  · have := hE i hi
    unfold nodeE at this
    split at this
    · rename_i h1; exact .inl h1
    · split at this
      · rename_i h1; exact .inr (.inl h1)
      · split at this
        · rename_i h1; exact .inr (.inr h1)
        · cases this
  · have := hE i hi
    unfold nodeE at this
    rw [if_pos hk] at this
    split at this
    · cases this
    · rename_i hc
      unfold badC at hc
      split at this
      · cases this
      · rename_i ha
        refine ⟨fun w hw => ?_, by omega, by omega⟩
        have hna : ¬ (w < 1 ∨ 1000 < w) := fun h => ha ⟨w, hw, h⟩
        omega
  · have := hE i hi
    unfold nodeE at this
    rw [if_neg (by omega), if_pos hk] at this
    split at this
    · cases this
    · rename_i hc
      unfold badM at hc
      omega
  · have := hE i hi
    unfold nodeE at this
    rw [if_neg (by omega), if_neg (by omega), if_pos hk] at this
    split at this
    · cases this
    · rename_i hc
      unfold badE at hc
      exact List.length_eq_zero_iff.1 (by omega)
  · have := hE i hi
    unfold nodeE at this
    rw [if_neg (by omega), if_neg (by omega), if_pos hk] at this
    split at this
    · cases this
    · rename_i hc
      unfold badE at hc
      omega
theorem sum_pos : ∀ {l : List Int}, (∀ x ∈ l, 1 ≤ x) → l ≠ [] → 1 ≤ l.sum
  | [], _, h => absurd rfl h
  | x :: l, h, _ => by
    rw [List.sum_cons]
    have h1 := h x (List.mem_cons_self ..)
    by_cases hl : l = []
    · subst hl; simpa using h1
    · have := sum_pos (l := l) (fun y hy => h y (List.mem_cons_of_mem _ hy)) hl
      omega
theorem GoodK.small {g : PGame} (G : GoodK g) {i : Nat} (hi : i < g.nodes.length) (hk : (nodeAt g i).kind = 1) : SmallW (nodeAt g i).weights ∧ 1 ≤ (nodeAt g i).weights.sum := by
  obtain ⟨h1, h2, h3⟩ := G.chn i hi hk
  have hl := G.good.wts i hi hk
  exact ⟨⟨by omega, fun x hx => by have := h1 x hx; omega⟩, sum_pos (fun x hx => (h1 x hx).1) (fun e => by rw [e] at hl; simp at hl; omega)⟩
/-- who decides at moves: the radix there, the choice -/
structure Dec where
  ty : Nat
  val : AV
  rad : PNode → Nat
  chs : PNode → Nat → Nat
def tblR : List (Nat × Nat × Option (Bool × Nat)) := [(119, 204, none), (139, 207, none), (191, 134, none)]
def tblC : List (Nat × Nat × Option (Bool × Nat)) := [(119, 203, none), (139, 206, none), (191, 209, none)]
/-- that a value decides so, at the nodes of a kind -/
structure DecH (fns : Ev.T AFn) (S : St) (D : Dec) (x : PNode) : Prop where
  self : sameV D.val D.val = true
  pos : 0 < D.rad x
  le : D.rad x ≤ 1073741824000
  lt : ∀ d, d < D.rad x → D.chs x d < x.next.length
  r : ∃ f, findM D.ty tblR = some (f, none) ∧ ∀ X cs, Same S X → NodeE X cs x → wpf fns (.fn f [D.val] []) [.agg cs] X fun r X' => r = .int .i64 ((D.rad x : Nat) : Int) ∧ Same X X'
  c : ∃ f, findM D.ty tblC = some (f, none) ∧ ∀ X cs d, Same S X → NodeE X cs x → d < D.rad x → wpf fns (.fn f [D.val] []) [.agg cs, .int .i64 ((d : Nat) : Int)] X fun r X' => r = .int .i64 ((D.chs x d : Nat) : Int) ∧ Same X X'
def decC : Dec := ⟨191, .agg [], fun x => x.weights.sum.toNat, fun x d => pickN x.weights (d : Int)⟩
theorem choose_spec {S : St} {c : AV} {cs : List AV} {x : PNode} {d : Int} (H : Has fns) (hc : c.cells = some []) (hx : NodeE S cs x) (hs : SmallW x.weights) (h0 : 0 ≤ d) (hd : d < x.weights.sum) : wpf fns (.fn 209 [] []) [c, .agg cs, .int .i64 d] S fun r S' => r = .int .i64 ((pickN x.weights d : Nat) : Int) ∧ Same S S' := by
  obtain ⟨xa, xw, xp, rfl, hxa, hxw, hxp⟩ := hx
  refine wpf_fn H.f209 (by simp) ?_
  simp only [↓sU, sD, reduceEqDiff, ↓reduceIte, reduceAdd]
  refine wsr ?_
  refine wpo_box (cs := []) (by simp only [↓sU, sD, reduceEqDiff, ↓reduceIte, reduceAdd]; exact hc) ?_
  intro S0 s0 n0 c0
  refine wpo_box (by simp only [↓sU, sD, reduceEqDiff, ↓reduceIte, reduceAdd]; exact cells_agg _) ?_
  intro S1 s1 n1 c1
  simp only [↓sU, sD, reduceEqDiff, ↓reduceIte, reduceAdd]
  refine wsr ?_
  simp only [↓sU, sD, reduceEqDiff, ↓reduceIte, reduceAdd, evQ_faddr, faddr_ptr, ld6_4 c1]
  refine wpo_call ?_
  simp only [↓sU, sD, reduceEqDiff, ↓reduceIte, reduceAdd]
  refine wpf_mono (pick_spec H (hxw.same (s0.trans s1)) hs h0 hd) ?_
  rintro _ X ⟨rfl, hX⟩
  try simp only [↓sU, sD, reduceEqDiff, ↓reduceIte, reduceAdd]
  refine wpc_ret ?_
  simp only [↓sU, sD, reduceEqDiff, ↓reduceIte, reduceAdd]
  exact (s0.trans s1).trans hX
theorem decC_h {g : PGame} {S : St} (H : Has fns) (G : GoodK g) {i : Nat} (hi : i < g.nodes.length) (hk : (nodeAt g i).kind = 1) : DecH fns S decC (nodeAt g i) := by
  obtain ⟨hs, h1⟩ := G.small hi hk
  have hall := hs.all
  have hl := G.good.wts i hi hk
  have hr : ((((nodeAt g i).weights.sum.toNat : Nat)) : Int) = (nodeAt g i).weights.sum := Int.toNat_of_nonneg (by omega)
  refine ⟨rfl, ?_, ?_, fun d hd => ?_, ⟨_, rfl, fun X cs hX hx => wpf_first ?_⟩, ⟨_, rfl, fun X cs d hX hx hd => wpf_first ?_⟩⟩
  · show 0 < (nodeAt g i).weights.sum.toNat; omega
  · show (nodeAt g i).weights.sum.toNat ≤ _; omega
  · have hd : d < (nodeAt g i).weights.sum.toNat := hd
    show pickN (nodeAt g i).weights (d : Int) < _
    rw [← hl]
    exact pickN_lt (by omega) (by omega)
  · show wpf fns _ [.agg [], .agg cs] X fun r X' => r = .int .i64 (((nodeAt g i).weights.sum.toNat : Nat) : Int) ∧ _
    rw [hr]
    exact radix_spec H rfl hx hs
  · have hd : d < (nodeAt g i).weights.sum.toNat := hd
    exact choose_spec H rfl hx hs (by omega) (by omega)
theorem at_spec {S : St} {cs : List AV} {x : PNode} {dv : AV} (H : Has fns) (hx : NodeE S cs x) : wpf fns (.fn 124 [] []) [.agg cs, dv] S fun r S' => r = (if x.kind = 1 then .iface 191 (.agg []) else dv) ∧ Same S S' := by
  obtain ⟨xa, xw, xp, rfl, hxa, hxw, hxp⟩ := hx
  refine wpf_fn H.f124 (by simp) ?_
  simp only [↓sU, sD, reduceEqDiff, ↓reduceIte, reduceAdd]
  refine wsr ?_
  refine wpo_box (by simp only [↓sU, sD, reduceEqDiff, ↓reduceIte, reduceAdd]; exact cells_agg _) ?_
  intro S1 s1 n1 c1
  simp only [↓sU, sD, reduceEqDiff, ↓reduceIte, reduceAdd]
  refine wss ?_
  simp only [↓sU, sD, reduceEqDiff, ↓reduceIte, reduceAdd, evQ_faddr, faddr_ptr, ld6_0 c1]
  by_cases hk : x.kind = 1
  · rw [if_pos hk]
    have hb : ∀ (F : Fr) (h : Ev.T AB), evQ (.build [] []) F h = some (.agg []) := fun _ _ => rfl
    have hm : ∀ (F : Fr) (h : Ev.T AB), tmpV 8 F = .agg [] → evQ (.mkIface 191 (.t 8)) F h = some (.iface 191 (.agg [])) := fun F h e => by show some (AV.iface _ (tmpV 8 F)) = _; rw [e]
    refine wpc_yes (by simp only [↓sU, sD, reduceEqDiff, ↓reduceIte, reduceAdd, decide_eq_true hk]) ?_
    refine wsr ?_
    simp only [↓sU, sD, reduceEqDiff, ↓reduceIte, reduceAdd, isLoad_build, hb, hm]
    refine wpc_ret ?_
    simp only [↓sU, sD, reduceEqDiff, ↓reduceIte, reduceAdd]
    exact s1
  · rw [if_neg hk]
    refine wpc_non (by simp only [↓sU, sD, reduceEqDiff, ↓reduceIte, reduceAdd, decide_eq_false hk]) (wpc_skip ?_)
    try simp only [↓sU, sD, reduceEqDiff, ↓reduceIte, reduceAdd]
    refine wsr ?_
    simp only [↓sU, sD, reduceEqDiff, ↓reduceIte, reduceAdd]
    refine wpc_ret ?_
    simp only [↓sU, sD, reduceEqDiff, ↓reduceIte, reduceAdd]
    exact s1
end Go.Ev.Gl

namespace Go.Ev.Gl
variable {fns : T AFn}

/-! ## The play as an iterator -/
noncomputable def asC : AC := .reg [⟨(some 8),(.q (.mv (.t 13))),none,0⟩]
noncomputable def bdC : AC := .block 1 (.reg [⟨(some 14),(.q (.ld false 1 (.t 7))),none,0⟩,
⟨(some 15),(.q (.mv (.t 8))),none,0⟩,
⟨(some 16),(.a (.bslice 3 1 1 [(.int .i64 (.ofNat 0))] [(0,(.t 15))])),none,0⟩,
⟨(some 17),(.x (.app 3 1 8 (.t 14) (.t 16))),none,0⟩,
⟨none,(.x (.st 1 (.t 7) (.t 17))),none,0⟩])
theorem yield_spec {X0 X : St} {l tb : Nat} {pend : Option Out} {fr : Fr} {pv : AV} {p : List Int} {i : Int} (hl : X.h.get l = some (.loop .ready pend fr [13] asC bdC)) (h7 : tmpV 7 fr = .ptr tb 0) (ht : X.h.get tb = some (.cells [pv] false 0)) (hg : GrW 1 X0 X pv p.length (cells64 p)) (hX : X0.nx ≤ X.nx) (ll : l < X0.nx) (lt : tb < X0.nx) (ne : l ≠ tb) (hp : p.length ≤ 100000) :
    wpf fns (.yld l) [.int .i64 i] X fun r X' => r = .bool true ∧ X.nx ≤ X'.nx ∧ (∀ c, c < X0.nx → c ≠ l → c ≠ tb → X'.h.get c = X.h.get c) ∧ X'.h.get l = some (.loop .ready none fr [13] asC bdC) ∧ ∃ pv', X'.h.get tb = some (.cells [pv'] false 0) ∧ GrW 1 X0 X' pv' (p ++ [i]).length (cells64 (p ++ [i])) := by
  refine wpf_yld (F := putF (some 13) fr (.int .i64 i)) hl rfl (wpc_reg ?_)
  simp only [↓sU, sD, reduceEqDiff, ↓reduceIte, reduceAdd]
  refine ⟨pend, fr, [13], asC, hl, ?_⟩
  have hb : ∀ {c}, blkOf pv = some c → X0.nx ≤ c ∧ c < X.nx := fun hc => ⟨(hg.blk hc).1, (hg.blk hc).2.1⟩
  generalize hX1 : (⟨X.h.set l (some (.loop .busy pend fr [13] asC bdC)), X.nx⟩ : St) = X1
  have k1 : ∀ c, c ≠ l → X1.h.get c = X.h.get c := fun c hc => by rw [← hX1]; simp only; rw [T.get_set, if_neg hc]
  have kl : X1.h.get l = some (.loop .busy pend fr [13] asC bdC) := by rw [← hX1]; simp only; rw [T.get_set, if_pos rfl]
  have n1 : X1.nx = X.nx := by rw [← hX1]
  have hld := ldrow (p := 0) ((k1 tb (Ne.symm ne)).trans ht) rfl
  show wpc fns (.block 1 (.reg _)) _ _ _
  refine wpc_block (wpc_reg ?_)
  simp only [↓stU, stD, reduceEqDiff, ↓reduceIte, reduceAdd, h7, hld]
  refine wpo_al (evA_one (n := i) (k := .i64) ?_) ?_
  · simp only [↓stU, stD, reduceEqDiff, ↓reduceIte, reduceAdd]
  intro X2 x2 m2 g2
  have gv2 : GrW 1 ⟨X2.h, X0.nx⟩ X2 pv p.length (cells64 p) := hg.move (by omega) fun c hc => by
    obtain ⟨h1, h2⟩ := hb hc
    rw [x2.2 _ (by omega), k1 _ (by omega)]
  obtain ⟨pv', X3, eA, gA, bA, nA, rA⟩ := GrW.push1 (bytes := 8) (x := .int .i64 i) gv2 ⟨by show X0.nx ≤ X2.nx; omega, fun _ _ => rfl⟩ g2 (by unfold room; omega) (by unfold room; omega)
  refine wpo_x (fun call => by simp only [↓stU, stD, reduceEqDiff, ↓reduceIte, reduceAdd, evX_app]; exact eA) ?_
  have ht3 : X3.h.get tb = some (.cells [pv] false 0) := by
    rw [rA _ (by omega) (fun e => by have := (hb e).1; omega), x2.2 _ (by omega), k1 _ (Ne.symm ne)]; exact ht
  refine wpo_st (b := tb) (cs' := [pv']) (by simp only [↓stU, stD, reduceEqDiff, ↓reduceIte, reduceAdd, h7]) (by simp only [↓stU, stD, reduceEqDiff, ↓reduceIte, reduceAdd]; rcases gA with ⟨rfl, _⟩ | ⟨b, rfl, _⟩ <;> rfl) ht3 rfl rfl ?_
  intro X4 x4 m4 g4
  simp only [↓stU, stD, reduceEqDiff, ↓reduceIte, reduceAdd]
  have kl4 : X4.h.get l = some (.loop .busy pend fr [13] asC bdC) := by
    rw [x4.2 _ (by omega) ne, rA _ (by omega) (fun e => by have := (hb e).1; omega), x2.2 _ (by omega)]; exact kl
  refine ⟨pend, fr, [13], asC, _, kl4, ?_⟩
  refine .inl ⟨by omega, fun c hc h1 h2 => ?_, by rw [T.get_set, if_pos rfl], pv', ?_, ?_⟩
  · rw [T.get_set, if_neg h1, x4.2 _ (by omega) h2, rA _ (by omega) (fun e => by have := (hb e).1; omega), x2.2 _ (by omega), k1 _ h1]
  · rw [T.get_set, if_neg (Ne.symm ne)]; exact g4
  · have e0 : cells64 (p ++ [i]) = cells64 p ++ [.int .i64 i] := by simp [cells64]
    have e1 : (p ++ [i]).length = p.length + 1 := by simp
    rw [e0, e1]
    have hbA : ∀ c, blkOf pv' = some c → c = X2.nx := fun c hc => by rw [bA] at hc; exact (Option.some.inj hc).symm
    refine GrW.move (S := X3) (by exact gA) (by show X3.nx ≤ X4.nx; omega) fun c hc => ?_
    have := hbA c hc
    simp only
    rw [T.get_set, if_neg (by omega), x4.2 _ (by omega) (by omega)]
/-- who decides at a node -/
def decAt (D : Dec) (x : PNode) : Dec := if x.kind = 1 then decC else D
/-- the nodes of a play -/
def pathL (g : PGame) (D : Dec) : Nat → Nat → Nat → List Int
  | 0, _, _ => []
  | f + 1, i, s => if (nodeAt g i).kind = 3 then [(i : Int)] else (i : Int) :: pathL g D f ((nodeAt g i).next.getD ((decAt D (nodeAt g i)).chs (nodeAt g i) (s % (decAt D (nodeAt g i)).rad (nodeAt g i))) 0).toNat (s / (decAt D (nodeAt g i)).rad (nodeAt g i))
def ItI (S0 X0 : St) (l tb b3 b4 b5 : Nat) (g : PGame) (D : Dec) (tot : List Int) (k : Nat) (A : Act') (X : St) : Prop := A.inr = false ∧ X0.nx ≤ X.nx ∧ (∀ c, c < X0.nx → c ≠ l → c ≠ tb → X.h.get c = X0.h.get c) ∧ ∃ (i s : Nat) (p : List Int) (pv : AV) (pend : Option Out) (fr : Fr), i < g.nodes.length ∧ g.nodes.length ≤ k + i ∧ s ≤ 9223372036854775807 ∧ tot = p ++ pathL g D k i s ∧ p.length ≤ i ∧ X.h.get l = some (.loop .ready pend fr [13] asC bdC) ∧ tmpV 7 fr = .ptr tb 0 ∧ X.h.get tb = some (.cells [pv] false 0) ∧ GrW 1 X0 X pv p.length (cells64 p) ∧ tmpV 0 A.F = .yld l ∧ tmpV 2 A.F = .ptr b3 0 ∧ tmpV 3 A.F = .ptr b4 0 ∧ tmpV 5 A.F = .int .i64 (s : Int) ∧ tmpV 6 A.F = .int .i64 (i : Int)
theorem evQ_meth {F : Fr} {h : Ev.T AB} {nm : String} {tbl : List (Nat × Nat × Option (Bool × Nat))} {x : Opd} : evQ (.mkMeth nm tbl x) F h = some (.mth nm tbl (x.val F)) := rfl
theorem isLoad_meth {nm : String} {tbl : List (Nat × Nat × Option (Bool × Nat))} {x : Opd} : isLoad (.mkMeth nm tbl x) = false := rfl
theorem nilchk_meth {nm : String} {tbl : List (Nat × Nat × Option (Bool × Nat))} {t f : Nat} {v : AV} (hf : findM t tbl = some (f, none)) : nilchkV (.mth nm tbl (.iface t v)) = some (.mth nm tbl (.iface t v)) := by
  show osel (findM t tbl) _ = _
  rw [hf]
  rfl
set_option maxHeartbeats 4000000 in
theorem iter_spec {S0 X0 : St} {l tb b3 b4 b5 s0 : Nat} {nv iv : AV} {g : PGame} {D : Dec} {pend : Option Out} {fr : Fr} (H : Has fns) (G : GoodK g) (hn : IsSlG 6 NodeE S0 nv g.nodes) (hD : ∀ i, i < g.nodes.length → (nodeAt g i).kind = 2 → DecH fns S0 D (nodeAt g i)) (hS : Same S0 X0) (hs0 : s0 ≤ 9223372036854775807)
    (l0 : S0.nx ≤ l) (t0 : S0.nx ≤ tb) (ll : l < X0.nx) (lt : tb < X0.nx) (lb3 : b3 < X0.nx) (lb4 : b4 < X0.nx) (lb5 : b5 < X0.nx) (ne : l ≠ tb) (nb3 : b3 ≠ l ∧ b3 ≠ tb) (nb4 : b4 ≠ l ∧ b4 ≠ tb) (nb5 : b5 ≠ l ∧ b5 ≠ tb)
    (g3 : X0.h.get b3 = some (.cells [.int .i64 g.players, nv, iv] false 0)) (g4 : X0.h.get b4 = some (.cells [.iface D.ty D.val] false 0)) (g5 : X0.h.get b5 = some (.cells [.int .i64 (s0 : Int)] false 0)) (gl : X0.h.get l = some (.loop .ready pend fr [13] asC bdC)) (h7 : tmpV 7 fr = .ptr tb 0) (gt : X0.h.get tb = some (.cells [.nilsl] false 0)) :
    wpf fns (.fn 161 [] [.ptr b5 0, .ptr b3 0, .ptr b4 0]) [.yld l] X0 fun _ X => X0.nx ≤ X.nx ∧ (∀ c, c < X0.nx → c ≠ l → c ≠ tb → X.h.get c = X0.h.get c) ∧ (∃ pend fr, X.h.get l = some (.loop .ready pend fr [13] asC bdC) ∧ outC pend = some .skip) ∧ ∃ pv, X.h.get tb = some (.cells [pv] false 0) ∧ GrW 1 X0 X pv (pathL g D g.nodes.length 0 s0).length (cells64 (pathL g D g.nodes.length 0 s0)) := by
  have hN := G.good.n2
  have ld5 := ldrow (p := 0) g5 rfl
  refine wpf_fn H.f161 (by simp) ?_
  simp only [↓sU, sD, reduceEqDiff, ↓reduceIte, reduceAdd]
  refine wsr ?_
  simp only [↓sU, sD, reduceEqDiff, ↓reduceIte, reduceAdd, ld5]
  refine wpc_mono (Q := fun o A' X => o = .ret ∧ X0.nx ≤ X.nx ∧ (∀ c, c < X0.nx → c ≠ l → c ≠ tb → X.h.get c = X0.h.get c) ∧ (∃ pend fr, X.h.get l = some (.loop .ready pend fr [13] asC bdC) ∧ outC pend = some .skip) ∧ ∃ pv, X.h.get tb = some (.cells [pv] false 0) ∧ GrW 1 X0 X pv (pathL g D g.nodes.length 0 s0).length (cells64 (pathL g D g.nodes.length 0 s0))) (wpc_block (wpc_loop (ItI S0 X0 l tb b3 b4 b5 g D (pathL g D g.nodes.length 0 s0)) ?_ g.nodes.length _ _ ⟨rfl, Nat.le_refl _, fun _ _ _ _ => rfl, 0, s0, [], .nilsl, pend, fr, G.good.n1, by omega, hs0, rfl, Nat.le_refl _, gl, h7, gt, .inl ⟨rfl, rfl, rfl⟩, by simp only [↓sU, sD, reduceEqDiff, ↓reduceIte, reduceAdd], by simp only [↓sU, sD, reduceEqDiff, ↓reduceIte, reduceAdd], by simp only [↓sU, sD, reduceEqDiff, ↓reduceIte, reduceAdd], by simp only [↓sU, sD, reduceEqDiff, ↓reduceIte, reduceAdd], by simp only [↓sU, sD, reduceEqDiff, ↓reduceIte, reduceAdd]⟩)) ?_
  rotate_left
  · rintro o ⟨F, inr⟩ X ⟨rfl, h⟩
    simp only [↓sU, sD, reduceEqDiff, ↓reduceIte, reduceAdd]
    exact h
  rintro k ⟨F, inr⟩ X ⟨q0, hX, hR, i, s, p, pv, pend, fr, hlt, hNk, hs, htot, hpl, hgl, h7, hgt, hgv, p0, p2, p3, p5, p6⟩
  simp only at q0 p0 p2 p3 p5 p6
  subst q0
  refine wss ?_
  simp only [↓sU, sD, reduceEqDiff, ↓reduceIte, reduceAdd, p0, p6]
  refine wpo_call ?_
  simp only [↓sU, sD, reduceEqDiff, ↓reduceIte, reduceAdd]
  refine wpf_mono (yield_spec hgl h7 hgt hgv hX ll lt ne (by omega)) ?_
  rintro _ Y ⟨rfl, hY, hRY, hgl2, pv', hgt2, hgv2⟩
  clear hgl hgt hgv
  have hRX : ∀ c, c < X0.nx → c ≠ l → c ≠ tb → Y.h.get c = X0.h.get c := fun c hc h1 h2 => (hRY c hc h1 h2).trans (hR c hc h1 h2)
  have nY : X0.nx ≤ Y.nx := Nat.le_trans hX hY
  have sY : Same S0 Y := ⟨Nat.le_trans hS.1 nY, fun c hc => by rw [hRX c (Nat.lt_of_lt_of_le hc hS.1) (by omega) (by omega)]; exact hS.2 c hc⟩
  have g3Y := (hRX b3 lb3 nb3.1 nb3.2).trans g3
  have g4Y := (hRX b4 lb4 nb4.1 nb4.2).trans g4
  refine wpc_yes (by simp only [↓sU, sD, reduceEqDiff, ↓reduceIte, reduceAdd]) (wpc_skip ?_)
  try simp only [↓sU, sD, reduceEqDiff, ↓reduceIte, reduceAdd]
  obtain ⟨_, bx, qx, hiax, hbx, _, ⟨xa, xw, xp, rfl, hxa, hxw, hxp⟩, hldx, _⟩ := IsSlG.at hn (by decide) (nodeAt_some hlt)
  rw [← ldSame sY hbx] at hldx
  refine wpc_block (wpc_seq (wpc_reg ?_))
  simp only [↓stU, stD, reduceEqDiff, ↓reduceIte, reduceAdd, p2, p6, evQ_faddr, faddr_ptr, lg3_1 g3Y, natOf_cast, hiax, hldx]
  refine wpo_alloc ?_
  intro Y1 y1 k1 h1
  refine wpo_st (b := Y.nx) (by simp only [↓stU, stD, reduceEqDiff, ↓reduceIte, reduceAdd]) (by simp only [↓stU, stD, reduceEqDiff, ↓reduceIte, reduceAdd]; exact cells_agg _) h1 rfl rfl ?_
  intro Y2 y2 k2 h2
  simp only [↓stU, stD, reduceEqDiff, ↓reduceIte, reduceAdd]
  have sYY : Same Y Y2 := y2.same y1 (Nat.le_refl _)
  have keep : ∀ {Z}, Same Y Z → X0.nx ≤ Z.nx ∧ (∀ c, c < X0.nx → c ≠ l → c ≠ tb → Z.h.get c = X0.h.get c) ∧ Z.h.get l = some (.loop .ready none fr [13] asC bdC) ∧ Z.h.get tb = some (.cells [pv'] false 0) ∧ GrW 1 X0 Z pv' (p ++ [(i : Int)]).length (cells64 (p ++ [(i : Int)])) := fun {Z} hZ =>
    ⟨Nat.le_trans nY hZ.1, fun c hc e1 e2 => (hZ.2 c (by omega)).trans (hRX c hc e1 e2), (hZ.2 l (by omega)).trans hgl2, (hZ.2 tb (by omega)).trans hgt2, hgv2.step hZ⟩
  obtain ⟨k, rfl⟩ : ∃ k', k = k' + 1 := ⟨k - 1, by omega⟩
  simp only [pathL] at htot
  refine wss ?_
  simp only [↓sU, sD, reduceEqDiff, ↓reduceIte, reduceAdd, evQ_faddr, faddr_ptr, ld6_0 h2]
  by_cases hk3 : (nodeAt g i).kind = 3
  · rw [if_pos hk3] at htot
    refine wpc_yes (by simp only [↓sU, sD, reduceEqDiff, ↓reduceIte, reduceAdd, decide_eq_true hk3]) (wpc_ret ?_)
    obtain ⟨e1, e2, e3, e4, e5⟩ := keep sYY
    rw [← htot] at e5
    exact ⟨rfl, e1, e2, ⟨none, fr, e3, rfl⟩, pv', e4, e5⟩
  rw [if_neg hk3] at htot
  refine wpc_non (by simp only [↓sU, sD, reduceEqDiff, ↓reduceIte, reduceAdd, decide_eq_false hk3]) (wpc_skip ?_)
  try simp only [↓sU, sD, reduceEqDiff, ↓reduceIte, reduceAdd]
  have hDA : DecH fns S0 (decAt D (nodeAt g i)) (nodeAt g i) := by
    unfold decAt
    split
    · rename_i h; exact decC_h H G hlt h
    · rename_i h
      rcases G.knd i hlt with h4 | h4 | h4
      · exact absurd h4 h
      · exact hD i hlt h4
      · exact absurd h4 hk3
  have sY2 := sY.trans sYY
  have ldN2 := ldN h2
  have g4Y2 := (sYY.2 _ (by omega)).trans g4Y
  have ld4 := ldrow (p := 0) g4Y2 rfl
  refine wsr ?_
  simp only [↓sU, sD, reduceEqDiff, ↓reduceIte, reduceAdd, p3, ldN2, ld4]
  refine wpo_call ?_
  simp only [↓sU, sD, reduceEqDiff, ↓reduceIte, reduceAdd]
  refine wpf_mono (at_spec (x := nodeAt g i) H ⟨xa, xw, xp, rfl, hxa.same sY2, hxw.same sY2, hxp.same sY2⟩) ?_
  rintro _ Y3 ⟨rfl, y3⟩
  have edc : (if (nodeAt g i).kind = 1 then .iface 191 (.agg []) else .iface D.ty D.val : AV) = .iface (decAt D (nodeAt g i)).ty (decAt D (nodeAt g i)).val := by
    unfold decAt
    split <;> rfl
  rw [edc]
  generalize hDD : decAt D (nodeAt g i) = E at *
  try simp only [↓sU, sD, reduceEqDiff, ↓reduceIte, reduceAdd]
  have s3 := sYY.trans y3
  have h3 := (y3.2 _ (by omega)).trans h2
  have ldN3 := ldN h3
  obtain ⟨fr', hfr, hrad⟩ := hDA.r
  obtain ⟨fc', hfc, hchs⟩ := hDA.c
  refine wsr ?_
  simp only [↓stU, stD, reduceEqDiff, ↓reduceIte, reduceAdd, ldN3]
  refine wpo_inv (t := E.ty) (f := fr') (v := E.val) (by simp only [↓stU, stD, reduceEqDiff, ↓reduceIte, reduceAdd]) hfr ?_
  simp only [↓sU, sD, reduceEqDiff, ↓reduceIte, reduceAdd]
  refine wpf_mono (hrad Y3 _ (sY.trans s3) ⟨xa, xw, xp, rfl, hxa.same (sY.trans s3), hxw.same (sY.trans s3), hxp.same (sY.trans s3)⟩) ?_
  rintro _ Y4 ⟨rfl, y4⟩
  try simp only [↓sU, sD, reduceEqDiff, ↓reduceIte, reduceAdd]
  have s4 := s3.trans y4
  have h4 := (y4.2 _ (by have := y3.1; omega)).trans h3
  have ldN4 := ldN h4
  have hpos := hDA.pos
  have hle := hDA.le
  have hrem := bin_rem_nat (.p .int) .i64 (t := s) (d := E.rad (nodeAt g i)) hpos
  have hml : s % E.rad (nodeAt g i) < E.rad (nodeAt g i) := Nat.mod_lt _ hpos
  have hcl := hDA.lt _ hml
  have hself := hDA.self
  have sx := agg_node (k := .i64) (x0 := (nodeAt g i).kind) (x1 := (nodeAt g i).player) (x2 := (nodeAt g i).info) (IsSl.self hxa) (IsSl.self hxw) (IsSl.self hxp)
  have sxa := IsSl.self hxa
  have lb7 : Y.nx < Y4.nx := by have := y3.1; have := y4.1; omega
  refine wpc_seq (wpc_drd1 (fun _ => False) ?_)
  intro Y5 y5
  unfold tblC at hfc
  have nm := nilchk_meth (nm := "parlour/deal.choose") (v := E.val) hfc
  have sZ5 := (sY.trans s4).trans y5
  simp only [↓sU, sD, reduceEqDiff, ↓reduceIte, reduceAdd, p5, evQ_faddr, isLoad_faddr, faddr_ptr, ld6_3 h4, ldN4, lb7, not_false_eq_true, sxa, sx, hrem, evQ_meth, isLoad_meth, evQ_nilchk, isLoad_nilchk, nm]
  refine runD_inv (t := E.ty) (f := fc') (u := E.val) rfl (by simp only [↓sU, sD, reduceEqDiff, ↓reduceIte, reduceAdd]) hfc ?_
  simp only [↓sU, sD, reduceEqDiff, ↓reduceIte, reduceAdd]
  refine wpf_mono (hchs Y5 _ (s % E.rad (nodeAt g i)) sZ5 ⟨xa, xw, xp, rfl, hxa.same sZ5, hxw.same sZ5, hxp.same sZ5⟩ hml) ?_
  rintro _ Y6 ⟨rfl, y6⟩
  refine ⟨y6, ?_⟩
  have s6 := (s4.trans y5).trans y6
  have hxa4 := hxa.same (sY.trans s4)
  have ia := hxa4.iaddr hcl
  have la := hxa4.ld hcl
  obtain ⟨b1, o1, hp1, lb1⟩ := IsSl.place hxa4 hcl
  rw [hp1] at ia la
  obtain ⟨hr1, hr2⟩ := G.good.kids i hlt _ hcl
  have hnc := natOf_cast
  simp only [↓sU, sD, reduceEqDiff, ↓reduceIte, reduceAdd, natOf_cast, ia, la, lb1, not_false_eq_true]
  have hq := bin_quo_i (.p .int) (a := ((s : Nat) : Int)) (b := ((E.rad (nodeAt g i) : Nat) : Int)) (by omega) (by omega) (by omega)
  have hq' : ((s : Nat) : Int) / ((E.rad (nodeAt g i) : Nat) : Int) = ((s / E.rad (nodeAt g i) : Nat) : Int) := rfl
  rw [hq'] at hq
  have hdl : s / E.rad (nodeAt g i) ≤ s := Nat.div_le_self ..
  refine wpc_reg ?_
  simp only [↓sU, sD, reduceEqDiff, ↓reduceIte, reduceAdd, p5, hq]
  obtain ⟨e1, e2, e3, e4, e5⟩ := keep s6
  generalize hcc : (nodeAt g i).next.getD (E.chs (nodeAt g i) (s % E.rad (nodeAt g i))) 0 = c at *
  have ec : ((c.toNat : Nat) : Int) = c := Int.toNat_of_nonneg (by omega)
  refine ⟨k, by omega, rfl, e1, e2, c.toNat, s / E.rad (nodeAt g i), p ++ [(i : Int)], pv', none, fr, by omega, by omega, by omega, by rw [htot, List.append_assoc]; rfl, by rw [List.length_append, List.length_singleton]; omega, e3, h7, e4, e5, by simp only [↓sU, sD, reduceEqDiff, ↓reduceIte, reduceAdd, p0], by simp only [↓sU, sD, reduceEqDiff, ↓reduceIte, reduceAdd, p2], by simp only [↓sU, sD, reduceEqDiff, ↓reduceIte, reduceAdd, p3], by simp only [↓sU, sD, reduceEqDiff, ↓reduceIte, reduceAdd], by simp only [↓sU, sD, reduceEqDiff, ↓reduceIte, reduceAdd, ec]⟩
end Go.Ev.Gl

namespace Go.Ev.Gl
variable {fns : T AFn}

/-! ## The play as a list -/
theorem nodes_spec {S : St} {nv iv : AV} {g : PGame} {t s : Nat} {v : AV} (H : Has fns) : wpf fns (.fn 127 [] []) [.agg [.int .i64 g.players, nv, iv], .iface t v, .int .i64 (s : Int)] S fun r X => Same S X ∧ ∃ b3 b4 b5, r = .fn 161 [] [.ptr b5 0, .ptr b3 0, .ptr b4 0] ∧ S.nx ≤ b3 ∧ S.nx ≤ b4 ∧ S.nx ≤ b5 ∧ b3 < X.nx ∧ b4 < X.nx ∧ b5 < X.nx ∧ X.h.get b3 = some (.cells [.int .i64 g.players, nv, iv] false 0) ∧ X.h.get b4 = some (.cells [.iface t v] false 0) ∧ X.h.get b5 = some (.cells [.int .i64 (s : Int)] false 0) := by
  refine wpf_fn H.f127 (by simp) ?_
  simp only [↓sU, sD, reduceEqDiff, ↓reduceIte, reduceAdd]
  refine wsr ?_
  refine wpo_box (cs := [.int .i64 g.players, nv, iv]) rfl ?_
  intro S1 s1 n1 g1
  refine wpo_box (cs := [.iface t v]) rfl ?_
  intro S2 s2 n2 g2
  refine wpo_box (cs := [.int .i64 (s : Int)]) rfl ?_
  intro S3 s3 n3 g3
  simp only [↓stU, stD, reduceEqDiff, ↓reduceIte, reduceAdd]
  refine wsr ?_
  simp only [↓stU, stD, reduceEqDiff, ↓reduceIte, reduceAdd, evQ_func]
  refine wpc_ret ?_
  simp only [↓stU, stD, reduceEqDiff, ↓reduceIte, reduceAdd]
  exact ⟨(s1.trans s2).trans s3, S.nx, S1.nx, S2.nx, rfl, by omega, by omega, by omega, by omega, by omega, by omega, by rw [s3.2 _ (by omega), s2.2 _ (by omega)]; exact g1, by rw [s3.2 _ (by omega)]; exact g2, g3⟩
set_option maxHeartbeats 4000000 in
theorem walked34_fresh {S : St} {nv iv : AV} {g : PGame} {D : Dec} {s : Nat} (H : Has fns) (G : GoodK g) (hn : IsSlG 6 NodeE S nv g.nodes) (hD : ∀ i, i < g.nodes.length → (nodeAt g i).kind = 2 → DecH fns S D (nodeAt g i)) (hs : s ≤ 9223372036854775807) :
    wpf fns (.fn 84 [] []) [.agg [.int .i64 g.players, nv, iv], .iface D.ty D.val, .int .i64 (s : Int)] S fun r X => Same S X ∧ IsSl .i64 X r (pathL g D g.nodes.length 0 s) ∧ ∀ c, blkOf r = some c → S.nx ≤ c := by
  refine wpf_fn H.f84 (by simp) ?_
  simp only [↓sU, sD, reduceEqDiff, ↓reduceIte, reduceAdd]
  refine wsr ?_
  refine wpo_box (cs := [.int .i64 g.players, nv, iv]) rfl ?_
  intro S1 s1 n1 g1
  simp only [↓stU, stD, reduceEqDiff, ↓reduceIte, reduceAdd]
  refine wsr ?_
  refine wpo_alloc ?_
  intro S2 s2 n2 g2
  simp only [↓stU, stD, reduceEqDiff, ↓reduceIte, reduceAdd]
  have g1' := (s2.2 _ (by omega)).trans g1
  refine wpc_seq (wpc_mono (Q := fun o A' X => o = .normal ∧ A'.inr = false ∧ Same S X ∧ tmpV 7 A'.F = .ptr S1.nx 0 ∧ ∃ pv, X.h.get S1.nx = some (.cells [pv] false 0) ∧ IsSl .i64 X pv (pathL g D g.nodes.length 0 s) ∧ ∀ c, blkOf pv = some c → S.nx ≤ c) (wpc_seq (wpc_reg ?_)) ?_)
  · simp only [↓stU, stD, reduceEqDiff, ↓reduceIte, reduceAdd, lg3_a g1']
    refine wpo_call ?_
    simp only [↓stU, stD, reduceEqDiff, ↓reduceIte, reduceAdd]
    refine wpf_mono (nodes_spec (g := g) (s := s) H) ?_
    rintro _ Y ⟨hY, b3, b4, b5, rfl, l3, l4, l5, k3, k4, k5, h3, h4, h5⟩
    try simp only [↓stU, stD, reduceEqDiff, ↓reduceIte, reduceAdd]
    have gt := (hY.2 _ (show S1.nx < S2.nx by omega)).trans g2
    have sY := (s1.trans s2).trans hY
    have nY := hY.1
    refine wpc_block (wpc_rng rfl (by simp only [↓stU, stD, reduceEqDiff, ↓reduceIte, reduceAdd]; rfl) ?_)
    refine wpf_mono (iter_spec (S0 := S) (X0 := ⟨Y.h.set Y.nx (some (.loop .ready none _ [13] asC bdC)), Y.nx + 1⟩) (l := Y.nx) (tb := S1.nx) (b3 := b3) (b4 := b4) (b5 := b5) (s0 := s) (g := g) (D := D) H G hn hD ⟨by have := sY.1; show S.nx ≤ Y.nx + 1; omega, fun c hc => by simp only; rw [T.get_set, if_neg (by have := sY.1; omega)]; exact sY.2 c hc⟩ hs (by have := sY.1; omega) (by omega) (by show Y.nx < Y.nx + 1; omega) (by show S1.nx < Y.nx + 1; omega) (by show b3 < Y.nx + 1; omega) (by show b4 < Y.nx + 1; omega) (by show b5 < Y.nx + 1; omega) (by omega) (by omega) (by omega) (by omega) (by simp only; rw [T.get_set, if_neg (by omega)]; exact h3) (by simp only; rw [T.get_set, if_neg (by omega)]; exact h4) (by simp only; rw [T.get_set, if_neg (by omega)]; exact h5) (by simp only; rw [T.get_set, if_pos rfl]) (by simp only [↓stU, stD, reduceEqDiff, ↓reduceIte, reduceAdd]) (by simp only; rw [T.get_set, if_neg (by omega)]; exact gt)) ?_
    rintro _ X ⟨nX, hR, ⟨pend, fr, hl, hc⟩, pv, ht, hg⟩
    have nX : Y.nx + 1 ≤ X.nx := nX
    refine ⟨.ready, pend, fr, [13], asC, bdC, .skip, hl, (by intro h; cases h), hc, wpc_skip ?_⟩
    have hoff : blkOf pv ≠ some Y.nx := fun e => by
      have := (hg.blk e).1
      have : Y.nx + 1 ≤ Y.nx := this
      omega
    simp only [↓stU, stD, reduceEqDiff, ↓reduceIte, reduceAdd]
    refine ⟨⟨by have := sY.1; show S.nx ≤ X.nx; omega, fun c hc => ?_⟩, pv, ?_, ?_, fun c hc => by have h1 := (hg.blk hc).1; have h2 : Y.nx + 1 ≤ c := h1; have := sY.1; omega⟩
    · try simp only
      have h1 : c < Y.nx + 1 := by have := sY.1; omega
      have h2 := hR c h1 (by have := sY.1; omega) (by omega)
      try simp only at h2
      rw [T.get_set, if_neg (by have := sY.1; omega), h2, T.get_set, if_neg (by have := sY.1; omega)]
      exact sY.2 c hc
    · try simp only
      rw [T.get_set, if_neg (by omega)]
      exact ht
    · refine GrW.is (S0 := ⟨Y.h.set Y.nx none, Y.nx + 1⟩) (GrW.move (S := X) (by exact hg) (Nat.le_refl _) fun c hc => ?_)
      simp only
      rw [T.get_set, if_neg (fun e => hoff (by rw [hc, e]))]
  rintro o ⟨F, inr⟩ X ⟨rfl, q0, hX, p7, pv, ht, hl, hfr⟩
  simp only at q0 p7
  subst q0
  have ld := ldrow (p := 0) ht rfl
  try simp only [↓sU, sD, reduceEqDiff, ↓reduceIte, reduceAdd]
  refine wsr ?_
  simp only [↓sU, sD, reduceEqDiff, ↓reduceIte, reduceAdd, p7, ld]
  refine wpc_ret ?_
  simp only [↓sU, sD, reduceEqDiff, ↓reduceIte, reduceAdd]
  exact ⟨hX, hl, hfr⟩
end Go.Ev.Gl

namespace Go.Ev.Gl
variable {fns : T AFn}

/-! ## How many seeds a game has, plain -/
def wN (g : PGame) (i : Nat) : Nat := if (nodeAt g i).kind = 1 then (nodeAt g i).weights.sum.toNat else 1
/-- the products of the radices above the nodes -/
structure Prods (g : PGame) (pr : Nat → Nat) : Prop where
  zero : pr 0 = 1
  kid : ∀ i, i < g.nodes.length → ∀ k, k < (nodeAt g i).next.length → pr ((nodeAt g i).next.getD k 0).toNat = pr i * wN g i
theorem parent_of {g : PGame} (G : GoodG g) {j : Nat} (h0 : 0 < j) (hj : j < g.nodes.length) : ∃ q k, q < j ∧ k < (nodeAt g q).next.length ∧ (nodeAt g q).next.getD k 0 = (j : Int) := by
  obtain ⟨T, _, hTl, hW⟩ := G.walk
  obtain ⟨q, h1, _, h3⟩ := hW.pf j h0 (by omega)
  rw [Nat.zero_add, Nat.zero_add, nextOf_at] at h3
  obtain ⟨k, hk, he⟩ := List.mem_iff_getElem.1 h3
  exact ⟨q, k, h1, hk, by rw [List.getD_eq_getElem?_getD, List.getElem?_eq_getElem hk]; exact he⟩
def szStep (g : PGame) (pr : Nat → Nat) (o : Option Nat) (i : Nat) : Option Nat := o.bind fun z => if (nodeAt g i).kind = 3 then lcmO z (pr i) else if (nodeAt g i).kind = 1 ∧ 1000000000000000 < pr i * wN g i then none else some z
def szF (g : PGame) (pr : Nat → Nat) (n : Nat) : Option Nat := (List.range n).foldl (szStep g pr) (some 1)
section
variable {g : PGame} {pr : Nat → Nat}
theorem szF_succ (n : Nat) : szF g pr (n + 1) = szStep g pr (szF g pr n) n := by unfold szF; rw [List.range_succ, List.foldl_append]; rfl
theorem szF_none {n : Nat} (h : szF g pr n = none) : ∀ {m : Nat}, n ≤ m → szF g pr m = none
  | 0, hm => by
    obtain rfl : n = 0 := by omega
    exact h
  | m + 1, hm => by
    by_cases e : n = m + 1
    · rw [← e]; exact h
    · rw [szF_succ, szF_none h (m := m) (by omega)]; rfl
theorem lcmO_some {z p y : Nat} (h : lcmO z p = some y) (hz : 0 < z) (hp : 0 < p) : 0 < y ∧ y ≤ 1000000000000000 := by
  unfold lcmO at h
  split at h
  · cases h
  · cases h
    have h1 : 0 < z / Nat.gcd z p := Nat.div_pos (Nat.gcd_le_left _ hz) (Nat.gcd_pos_of_pos_left _ hz)
    exact ⟨Nat.mul_pos h1 hp, by omega⟩
theorem wN_pos (G : GoodK g) {i : Nat} (hi : i < g.nodes.length) : 0 < wN g i := by
  unfold wN
  split
  · rename_i h; have := (G.small hi h).2; omega
  · exact Nat.one_pos
theorem Prods.pos (P : Prods g pr) (G : GoodK g) : ∀ {j : Nat}, j < g.nodes.length → 0 < pr j := by
  intro j
  induction j using Nat.strongRecOn with
  | ind j ih =>
    intro hj
    rcases Nat.eq_zero_or_pos j with h0 | h0
    · subst h0; rw [P.zero]; exact Nat.one_pos
    · obtain ⟨q, k, hq, hk, he⟩ := parent_of G.good h0 hj
      have := P.kid q (by omega) k hk
      rw [he, Int.toNat_natCast] at this
      rw [this]
      exact Nat.mul_pos (ih q hq (by omega)) (wN_pos G (by omega))
/-- what is known as long as nothing was too great -/
theorem szF_some (P : Prods g pr) (G : GoodK g) : ∀ {n z : Nat}, n ≤ g.nodes.length → szF g pr n = some z → 0 < z ∧ z ≤ 1000000000000000 ∧ (∀ j, j < n → (nodeAt g j).kind = 1 → pr j * wN g j ≤ 1000000000000000)
  | 0, z, _, h => by
    have : some 1 = some z := h
    cases this
    exact ⟨by omega, by omega, fun j hj => by omega⟩
  | n + 1, z, hn, h => by
    rw [szF_succ] at h
    cases h1 : szF g pr n with
    | none => rw [h1] at h; cases h
    | some y =>
      obtain ⟨a, b, c⟩ := szF_some P G (n := n) (by omega) h1
      rw [h1] at h
      have h : (if (nodeAt g n).kind = 3 then lcmO y (pr n) else if (nodeAt g n).kind = 1 ∧ 1000000000000000 < pr n * wN g n then none else some y) = some z := h
      split at h
      · rename_i h3
        obtain ⟨d, e⟩ := lcmO_some h a (P.pos G (by omega))
        refine ⟨d, e, fun j hj hk => ?_⟩
        by_cases hjn : j = n
        · subst hjn; omega
        · exact c j (by omega) hk
      · split at h
        · cases h
        · rename_i h3 h4
          cases h
          refine ⟨a, b, fun j hj hk => ?_⟩
          by_cases hjn : j = n
          · subst hjn
            rcases Nat.lt_or_ge 1000000000000000 (pr j * wN g j) with h5 | h5
            · exact absurd ⟨hk, h5⟩ h4
            · exact h5
          · exact c j (by omega) hk
theorem Prods.le (P : Prods g pr) (G : GoodK g) {n : Nat} (hc : ∀ j, j < n → (nodeAt g j).kind = 1 → pr j * wN g j ≤ 1000000000000000) : ∀ {j : Nat}, j ≤ n → j < g.nodes.length → pr j ≤ 1000000000000000 := by
  intro j
  induction j using Nat.strongRecOn with
  | ind j ih =>
    intro hjn hj
    rcases Nat.eq_zero_or_pos j with h0 | h0
    · subst h0; rw [P.zero]; omega
    · obtain ⟨q, k, hq, hk, he⟩ := parent_of G.good h0 hj
      have := P.kid q (by omega) k hk
      rw [he, Int.toNat_natCast] at this
      rw [this]
      by_cases h1 : (nodeAt g q).kind = 1
      · exact hc q (by omega) h1
      · have hw : wN g q = 1 := by unfold wN; rw [if_neg h1]
        rw [hw, Nat.mul_one]
        exact ih q hq (by omega) (by omega)
end
/-- the size of a game: the number, the error -/
def sizeN (g : PGame) (pr : Nat → Nat) : Int := match szF g pr g.nodes.length with | none => 0 | some z => (z : Int)
def sizeR (g : PGame) (pr : Nat → Nat) : Int := match szF g pr g.nodes.length with | none => 5 | some _ => 0
end Go.Ev.Gl

namespace Go.Ev.Gl
variable {fns : T AFn}

/-! ## How many seeds a game has, of the program -/
def JnI (S : St) (g : Nat) (sb p : Nat) (k : Nat) (A : Act') (S' : St) : Prop :=
  A.inr = false ∧ Same S S' ∧ ∃ a b : Nat, tmpV 0 A.F = .ptr sb 0 ∧ tmpV 1 A.F = .int .i64 (p : Int) ∧ tmpV 4 A.F = .int .i64 (a : Int) ∧ tmpV 5 A.F = .int .i64 (b : Int) ∧ a ≤ 9223372036854775807 ∧ b ≤ 9223372036854775807 ∧ Nat.gcd a b = g ∧ k = b
theorem lcm_swap {z p : Nat} (hz : 0 < z) : z * (p / Nat.gcd z p) = z / Nat.gcd z p * p := by
  have hg : 0 < Nat.gcd z p := Nat.gcd_pos_of_pos_left _ hz
  obtain ⟨a, ha⟩ := Nat.gcd_dvd_left z p
  obtain ⟨b, hb⟩ := Nat.gcd_dvd_right z p
  generalize Nat.gcd z p = q at *
  subst ha; subst hb
  rw [Nat.mul_div_cancel_left _ hg, Nat.mul_div_cancel_left _ hg, Nat.mul_comm q a, Nat.mul_assoc]
def ScanIs (X : St) (sb : Nat) (ps : Int) (nv iv : AV) (z : Nat) (b : Bool) : Prop := X.h.get sb = some (.cells [.int .i64 ps, nv, iv, .int .i64 (z : Int), .bool b] false 0)
theorem bool_cells (b : Bool) : (AV.bool b).cells = some [.bool b] := rfl
set_option maxHeartbeats 1000000 in
theorem join_spec {S : St} {sb z p : Nat} {ps : Int} {nv iv : AV} (H : Has fns) (hb : sb < S.nx) (hg : ScanIs S sb ps nv iv z false) (hz : 0 < z) (hp : 0 < p) (hz2 : z ≤ 1000000000000000) (hp2 : p ≤ 1000000000000000) :
    wpf fns (.fn 132 [] []) [.ptr sb 0, .int .i64 (p : Int)] S fun _ X => SameBut sb S X ∧ match lcmO z p with | none => ScanIs X sb ps nv iv z true | some y => ScanIs X sb ps nv iv y false := by
  unfold ScanIs at hg ⊢
  have l3 := ldc (j := 3) hg rfl
  have l4 := ldc (j := 4) hg rfl
  have hG : 0 < Nat.gcd z p := Nat.gcd_pos_of_pos_left _ hz
  refine wpf_fn H.f132 (by simp) ?_
  simp only [↓sU, sD, reduceEqDiff, ↓reduceIte, reduceAdd]
  refine wsr ?_
  simp only [↓sU, sD, reduceEqDiff, ↓reduceIte, reduceAdd, evQ_nilchk, nilchk_ptr, evQ_faddr, faddr_ptr, l3]
  refine wpc_seq (wpc_mono (Q := fun o A' X => o = .normal ∧ A'.inr = false ∧ Same S X ∧ tmpV 0 A'.F = .ptr sb 0 ∧ tmpV 1 A'.F = .int .i64 (p : Int) ∧ tmpV 4 A'.F = .int .i64 ((Nat.gcd z p : Nat) : Int)) (wpc_block (wpc_loop (JnI S (Nat.gcd z p) sb p) ?_ p _ _ ⟨rfl, Same.refl _, z, p, by simp only [↓sU, sD, reduceEqDiff, ↓reduceIte, reduceAdd], by simp only [↓sU, sD, reduceEqDiff, ↓reduceIte, reduceAdd], by simp only [↓sU, sD, reduceEqDiff, ↓reduceIte, reduceAdd], by simp only [↓sU, sD, reduceEqDiff, ↓reduceIte, reduceAdd], by omega, by omega, rfl, rfl⟩)) ?_)
  · rintro k ⟨F, inr⟩ X ⟨q0, hX, a, b, p0, p1, p4, p5, ha, hb, hgc, rfl⟩
    simp only at q0 p0 p1 p4 p5
    subst q0
    refine wss ?_
    simp only [↓sU, sD, reduceEqDiff, ↓reduceIte, reduceAdd, p5]
    rcases Nat.eq_zero_or_pos k with h0 | hkp
    · subst h0
      refine wpc_non (by simp only [↓sU, sD, reduceEqDiff, ↓reduceIte, reduceAdd]; rfl) (wpc_exit ?_)
      rw [Nat.gcd_zero_right] at hgc
      rw [← hgc]
      simp only [↓sU, sD, reduceEqDiff, ↓reduceIte, reduceAdd, p0, p1, p4]
      exact hX
    · refine wpc_yes (by simp only [↓sU, sD, reduceEqDiff, ↓reduceIte, reduceAdd, decide_eq_true (show (k : Int) ≠ 0 by omega)]) (wpc_skip ?_)
      try simp only [↓sU, sD, reduceEqDiff, ↓reduceIte, reduceAdd]
      have hrem := bin_rem_nat (.p .int) .i64 (t := a) (d := k) hkp
      refine wpc_block (wpc_drq ?_)
      simp only [↓sU, sD, reduceEqDiff, ↓reduceIte, reduceAdd, p4, p5, hrem]
      refine ⟨a % k, Nat.mod_lt _ hkp, rfl, hX.trans (Same.nx _ _), k, a % k, by simp only [↓sU, sD, reduceEqDiff, ↓reduceIte, reduceAdd, p0], by simp only [↓sU, sD, reduceEqDiff, ↓reduceIte, reduceAdd, p1], by simp only [↓sU, sD, reduceEqDiff, ↓reduceIte, reduceAdd], by simp only [↓sU, sD, reduceEqDiff, ↓reduceIte, reduceAdd], hb, by have := Nat.mod_lt a hkp; omega, ?_, rfl⟩
      rw [← hgc, Nat.gcd_comm a k, Nat.gcd_rec k a, Nat.gcd_comm]
  rintro o ⟨F, inr⟩ X ⟨rfl, q0, hX, p0, p1, p4⟩
  simp only at q0 p0 p1 p4
  subst q0
  have hsw := lcm_swap (p := p) hz
  have hgp := Nat.div_pos (Nat.gcd_le_right z hp) hG
  have hfle : p / Nat.gcd z p ≤ p := Nat.div_le_self ..
  have hq1 := bin_quo_i (.p .int) (a := ((p : Nat) : Int)) (b := ((Nat.gcd z p : Nat) : Int)) (by omega) (by omega) (by omega)
  have hq1' : ((p : Nat) : Int) / ((Nat.gcd z p : Nat) : Int) = ((p / Nat.gcd z p : Nat) : Int) := rfl
  rw [hq1'] at hq1
  try simp only [↓sU, sD, reduceEqDiff, ↓reduceIte, reduceAdd]
  refine wsr ?_
  simp only [↓sU, sD, reduceEqDiff, ↓reduceIte, reduceAdd, p1, p4, hq1]
  unfold lcmO
  rw [← hsw]
  generalize p / Nat.gcd z p = f at *
  have hq2 := bin_quo_i (.p .int) (a := 1000000000000000) (b := ((f : Nat) : Int)) (by decide) (by decide) (by omega)
  have hq2' : (1000000000000000 : Int) / ((f : Nat) : Int) = ((1000000000000000 / f : Nat) : Int) := rfl
  rw [hq2'] at hq2
  have hgX := (hX.2 _ hb).trans hg
  have l3X := ldc (j := 3) hgX rfl
  refine wpc_seq (wpc_seq (wpc_drq ?_))
  simp only [↓sU, sD, reduceEqDiff, ↓reduceIte, reduceAdd, p0, evQ_nilchk, isLoad_nilchk, nilchk_ptr, evQ_faddr, isLoad_faddr, faddr_ptr, l3X, hq2]
  by_cases h : 1000000000000000 < z * f
  · have h2 := (gt_div (x := z) hgp).2 h
    rw [if_pos h]
    refine wpc_yes (by simp only [↓sU, sD, reduceEqDiff, ↓reduceIte, reduceAdd, decide_eq_true (show ((z : Nat) : Int) > ((1000000000000000 / f : Nat) : Int) by omega)]) ?_
    refine wsr ?_
    simp only [↓sU, sD, reduceEqDiff, ↓reduceIte, reduceAdd, p0, evQ_nilchk, nilchk_ptr, evQ_faddr, faddr_ptr]
    refine wpo_x (fun call => by simp only [↓sU, sD, reduceEqDiff, ↓reduceIte, reduceAdd, evX_st, bool_cells]; exact stc (S := ⟨X.h, X.nx + 7⟩) hgX (by simp)) ?_
    simp only [↓sU, sD, reduceEqDiff, ↓reduceIte, reduceAdd]
    refine wpc_ret ?_
    simp only [↓sU, sD, reduceEqDiff, ↓reduceIte, reduceAdd]
    refine ⟨⟨by have := hX.1; show S.nx ≤ X.nx + 7; omega, fun c hc hne => ?_⟩, ?_⟩
    · try simp only
      rw [T.get_set, if_neg hne]; exact hX.2 c hc
    · try simp only
      rw [T.get_set, if_pos rfl]; rfl
  · have h2 : ¬ 1000000000000000 / f < z := fun h3 => h ((gt_div hgp).1 h3)
    rw [if_neg h]
    refine wpc_non (by simp only [↓sU, sD, reduceEqDiff, ↓reduceIte, reduceAdd, decide_eq_false (show ¬ ((z : Nat) : Int) > ((1000000000000000 / f : Nat) : Int) by omega)]) (wpc_skip ?_)
    try simp only [↓sU, sD, reduceEqDiff, ↓reduceIte, reduceAdd]
    have w1 : IntKind.i64.wrap (((z : Nat) : Int) * ((f : Nat) : Int)) = ((z * f : Nat) : Int) := by rw [← Int.natCast_mul]; exact wrap_i64 (by omega) (by omega)
    refine wpc_reg ?_
    simp only [↓sU, sD, reduceEqDiff, ↓reduceIte, reduceAdd, p0, evQ_nilchk, nilchk_ptr, evQ_faddr, faddr_ptr, l3X, w1]
    refine wpo_x (fun call => by simp only [↓sU, sD, reduceEqDiff, ↓reduceIte, reduceAdd, evX_st, cells_int]; exact stc (S := ⟨X.h, X.nx + 7⟩) hgX (by simp)) ?_
    simp only [↓sU, sD, reduceEqDiff, ↓reduceIte, reduceAdd]
    refine ⟨_, rfl, ⟨by have := hX.1; show S.nx ≤ X.nx + 7; omega, fun c hc hne => ?_⟩, ?_⟩
    · try simp only
      rw [T.get_set, if_neg hne]; exact hX.2 c hc
    · try simp only
      rw [T.get_set, if_pos rfl]; rfl
end Go.Ev.Gl

namespace Go.Ev.Gl
variable {fns : T AFn}

/-! ## visit, Size of the program -/
def VisO (X : St) (sb : Nat) (ps : Int) (nv iv : AV) (g : PGame) (pr : Nat → Nat) (n : Nat) : Prop := (∃ z, ScanIs X sb ps nv iv z true ∧ szF g pr n = none) ∨ (∃ z, ScanIs X sb ps nv iv z false ∧ szF g pr n = some z)
def VisI (S : St) (sb : Nat) (nv iv xa : AV) (g : PGame) (pr : Nat → Nat) (i e w : Nat) (rec : Nat → Option (List Trip)) (k : Nat) (A : Act') (X : St) : Prop := A.inr = false ∧ SameBut sb S X ∧ ∃ (j r : Nat) (Tr : List Trip), j + k = (nodeAt g i).next.length ∧ kidsL rec ((nodeAt g i).next.drop j) r = some Tr ∧ r + Tr.length = e ∧ VisO X sb g.players nv iv g pr r ∧ tmpV 0 A.F = .ptr sb 0 ∧ tmpV 2 A.F = .int .i64 (w : Int) ∧ tmpV 41 A.F = xa ∧ tmpV 42 A.F = .int .i64 (((nodeAt g i).next.length : Nat) : Int) ∧ tmpV 43 A.F = .int .i64 (j : Int)
set_option maxHeartbeats 4000000 in
theorem visit_spec {S0 : St} {sb : Nat} {nv iv : AV} {g : PGame} {pr : Nat → Nat} (H : Has fns) (G : GoodK g) (P : Prods g pr) (hn : IsSlG 6 NodeE S0 nv g.nodes) (hsb : S0.nx ≤ sb) :
    ∀ (f : Nat) {S : St} {i : Nat} {p d : Int} {T' : List Trip} {z : Nat}, walkL g.nodes.length (nextOf g) f i p d = some T' → Same S0 S → sb < S.nx → ScanIs S sb g.players nv iv z false → szF g pr i = some z →
    wpf fns (.fn 88 [] []) [.ptr sb 0, .int .i64 (i : Int), .int .i64 ((pr i : Nat) : Int)] S fun _ X => SameBut sb S X ∧ VisO X sb g.players nv iv g pr (i + T'.length) := by
  have hN := G.good.n2
  intro f
  induction f with
  | zero => intro S i p d T' z hT'; cases hT'
  | succ f ih =>
    intro S i p d T' z hT' hS hb hsc hz
    simp only [walkL] at hT'
    split at hT'
    rotate_left
    · cases hT'
    rename_i hlt
    obtain ⟨L', hkids, rfl⟩ := Option.map_eq_some_iff.1 hT'
    rw [nextOf_at] at hkids
    obtain ⟨hz0, hz1, hzc⟩ := szF_some P G (by omega) hz
    have hp1 := P.pos G hlt
    have hp2 := P.le G hzc (Nat.le_refl i) hlt
    have hg : S.h.get sb = _ := hsc
    have l1 := ldc (j := 1) hg rfl
    obtain ⟨_, bx, qx, hiax, hbx, _, ⟨xa, xw, xp, rfl, hxa, hxw, hxp⟩, hldx, _⟩ := IsSlG.at hn (by decide) (nodeAt_some hlt)
    rw [← ldSame hS hbx] at hldx
    refine wpf_fn H.f88 (by simp) ?_
    simp only [↓sU, sD, reduceEqDiff, ↓reduceIte, reduceAdd]
    refine wsr ?_
    simp only [↓stU, stD, reduceEqDiff, ↓reduceIte, reduceAdd, evQ_nilchk, nilchk_ptr, evQ_faddr, faddr_ptr, l1, natOf_cast, hiax, hldx]
    refine wpo_alloc ?_
    intro Y1 y1 k1 h1
    refine wpo_st (b := S.nx) (by simp only [↓stU, stD, reduceEqDiff, ↓reduceIte, reduceAdd]) (by simp only [↓stU, stD, reduceEqDiff, ↓reduceIte, reduceAdd]; exact cells_agg _) h1 rfl rfl ?_
    intro Y y2 k2 h2
    simp only [↓stU, stD, reduceEqDiff, ↓reduceIte, reduceAdd]
    have sY : Same S Y := y2.same y1 (Nat.le_refl _)
    have s0Y := hS.trans sY
    have gY := (sY.2 _ hb).trans hg
    have lbY : S.nx < Y.nx := by omega
    refine wpc_seq (wpc_mono (Q := fun o A' X => (o = .normal ∧ A'.inr = false ∧ Same Y X ∧ (nodeAt g i).kind ≠ 3 ∧ szF g pr (i + 1) = some z ∧ pr i * wN g i ≤ 1000000000000000 ∧ tmpV 0 A'.F = .ptr sb 0 ∧ tmpV 2 A'.F = .int .i64 ((pr i * wN g i : Nat) : Int) ∧ tmpV 6 A'.F = .ptr S.nx 0) ∨ (o = .ret ∧ SameBut sb S X ∧ VisO X sb g.players nv iv g pr (i + (L'.length + 1)))) (wpc_seq (wpc_reg ?_)) ?_)
    · simp only [↓sU, sD, reduceEqDiff, ↓reduceIte, reduceAdd, evQ_faddr, faddr_ptr, ld6_0 h2]
      refine wpc_block (wpc_seq (wpc_reg ?_))
      simp only [↓sU, sD, reduceEqDiff, ↓reduceIte, reduceAdd]
      by_cases hk3 : (nodeAt g i).kind = 3
      · refine wpc_yes (by simp only [↓sU, sD, reduceEqDiff, ↓reduceIte, reduceAdd, decide_eq_true hk3]) ?_
        refine wsr ?_
        simp only [↓sU, sD, reduceEqDiff, ↓reduceIte, reduceAdd]
        refine wpo_call ?_
        simp only [↓sU, sD, reduceEqDiff, ↓reduceIte, reduceAdd]
        refine wpf_mono (join_spec H (Nat.lt_of_lt_of_le hb sY.1) gY hz0 hp1 hz1 hp2) ?_
        rintro _ X ⟨hX, hj⟩
        try simp only [↓sU, sD, reduceEqDiff, ↓reduceIte, reduceAdd]
        refine wpc_ret ?_
        rw [G.fin i hlt hk3] at hkids
        simp only [kidsL, Option.some.injEq] at hkids
        subst hkids
        refine .inr ⟨rfl, ⟨Nat.le_trans sY.1 hX.1, fun c hc hne => by rw [hX.2 _ (Nat.lt_of_lt_of_le hc sY.1) hne, sY.2 _ hc]⟩, ?_⟩
        have hst : szF g pr (i + 1) = lcmO z (pr i) := by
          rw [szF_succ, hz]
          show (if (nodeAt g i).kind = 3 then _ else _) = _
          rw [if_pos hk3]
        show VisO X sb g.players nv iv g pr (i + 1)
        cases hl : lcmO z (pr i) with
        | none => rw [hl] at hj hst; exact .inl ⟨z, hj, hst⟩
        | some y => rw [hl] at hj hst; exact .inr ⟨y, hj, hst⟩
      refine wpc_non (by simp only [↓sU, sD, reduceEqDiff, ↓reduceIte, reduceAdd, decide_eq_false hk3]) ?_
      refine wsr ?_
      simp only [↓sU, sD, reduceEqDiff, ↓reduceIte, reduceAdd]
      have hst : szF g pr (i + 1) = if (nodeAt g i).kind = 1 ∧ 1000000000000000 < pr i * wN g i then none else some z := by
        rw [szF_succ, hz]
        show (if (nodeAt g i).kind = 3 then _ else _) = _
        rw [if_neg hk3]
      by_cases hk1 : (nodeAt g i).kind = 1
      · obtain ⟨hsm, hs1⟩ := G.small hlt hk1
        have hall := hsm.all
        have hw : wN g i = (nodeAt g i).weights.sum.toNat := by unfold wN; rw [if_pos hk1]
        have hwi : ((wN g i : Nat) : Int) = (nodeAt g i).weights.sum := by rw [hw]; exact Int.toNat_of_nonneg (by omega)
        have hwp : 0 < wN g i := by omega
        refine wpc_yes (by simp only [↓sU, sD, reduceEqDiff, ↓reduceIte, reduceAdd, decide_eq_true hk1]) ?_
        refine wsr ?_
        simp only [↓sU, sD, reduceEqDiff, ↓reduceIte, reduceAdd, evQ_faddr, faddr_ptr, ld6_4 h2]
        refine wpo_call ?_
        simp only [↓sU, sD, reduceEqDiff, ↓reduceIte, reduceAdd]
        refine wpf_mono (total_spec H (hxw.same s0Y) hsm) ?_
        rintro _ X ⟨rfl, hX⟩
        rw [← hwi]
        generalize wN g i = w at *
        have hq := bin_quo_i (.p .int) (a := 1000000000000000) (b := ((w : Nat) : Int)) (by decide) (by decide) (by omega)
        have hq' : (1000000000000000 : Int) / ((w : Nat) : Int) = ((1000000000000000 / w : Nat) : Int) := rfl
        rw [hq'] at hq
        try simp only [↓sU, sD, reduceEqDiff, ↓reduceIte, reduceAdd]
        refine wss ?_
        simp only [↓sU, sD, reduceEqDiff, ↓reduceIte, reduceAdd, hq]
        by_cases h : 1000000000000000 < pr i * w
        · have h3 := (gt_div (x := pr i) hwp).2 h
          rw [if_pos ⟨hk1, h⟩] at hst
          have gX := (hX.2 _ (Nat.lt_of_lt_of_le hb sY.1)).trans gY
          refine wpc_yes (by simp only [↓sU, sD, reduceEqDiff, ↓reduceIte, reduceAdd, decide_eq_true (show ((pr i : Nat) : Int) > ((1000000000000000 / w : Nat) : Int) by omega)]) ?_
          refine wsr ?_
          simp only [↓sU, sD, reduceEqDiff, ↓reduceIte, reduceAdd, evQ_nilchk, nilchk_ptr, evQ_faddr, faddr_ptr]
          refine wpo_x (fun call => by simp only [↓sU, sD, reduceEqDiff, ↓reduceIte, reduceAdd, evX_st, bool_cells]; exact stc (S := X) gX (by simp)) ?_
          simp only [↓sU, sD, reduceEqDiff, ↓reduceIte, reduceAdd]
          refine wpc_ret ?_
          refine .inr ⟨rfl, ⟨Nat.le_trans sY.1 hX.1, fun c hc hne => ?_⟩, .inl ⟨z, ?_, szF_none hst (by omega)⟩⟩
          · simp only
            rw [T.get_set, if_neg hne, hX.2 _ (Nat.lt_of_lt_of_le hc sY.1), sY.2 _ hc]
          · unfold ScanIs
            simp only
            rw [T.get_set, if_pos rfl]; rfl
        · have h3 : ¬ 1000000000000000 / w < pr i := fun h4 => h ((gt_div hwp).1 h4)
          rw [if_neg (fun h4 => h h4.2)] at hst
          refine wpc_non (by simp only [↓sU, sD, reduceEqDiff, ↓reduceIte, reduceAdd, decide_eq_false (show ¬ ((pr i : Nat) : Int) > ((1000000000000000 / w : Nat) : Int) by omega)]) (wpc_skip ?_)
          try simp only [↓sU, sD, reduceEqDiff, ↓reduceIte, reduceAdd]
          have w1 : IntKind.i64.wrap (((pr i : Nat) : Int) * ((w : Nat) : Int)) = ((pr i * w : Nat) : Int) := by rw [← Int.natCast_mul]; exact wrap_i64 (by omega) (by omega)
          refine wpc_reg ?_
          simp only [↓sU, sD, reduceEqDiff, ↓reduceIte, reduceAdd, w1]
          exact .inl ⟨hX, hk3, hst, by omega⟩
      · have hw : wN g i = 1 := by unfold wN; rw [if_neg hk1]
        rw [if_neg (fun h => hk1 h.1)] at hst
        refine wpc_non (by simp only [↓sU, sD, reduceEqDiff, ↓reduceIte, reduceAdd, decide_eq_false hk1]) (wpc_skip ?_)
        rw [hw, Nat.mul_one]
        simp only [↓sU, sD, reduceEqDiff, ↓reduceIte, reduceAdd]
        exact .inl ⟨Same.refl _, hk3, hst, hp2⟩
    rintro o ⟨F, inr⟩ X (⟨rfl, q0, hX, hk3, hst, hple, p0, p2, p6⟩ | ⟨rfl, hb2, hv⟩)
    rotate_left
    · simp only [↓sU, sD, reduceEqDiff, ↓reduceIte, reduceAdd]
      exact ⟨hb2, hv⟩
    simp only at q0 p0 p2 p6
    subst q0
    have sX := s0Y.trans hX
    have hXb := (hX.2 _ lbY).trans h2
    have hxaX := hxa.same sX
    have sSX := sY.trans hX
    have hscX : ScanIs X sb g.players nv iv z false := (sSX.2 _ hb).trans hsc
    try simp only [↓sU, sD, reduceEqDiff, ↓reduceIte, reduceAdd]
    refine wsr ?_
    simp only [↓sU, sD, reduceEqDiff, ↓reduceIte, reduceAdd, p6, evQ_faddr, faddr_ptr, ld6_3 hXb, hxaX.len, Int.ofNat_eq_natCast]
    refine wpc_mono (Q := fun o A' Z => (o = .normal ∧ VisI S sb nv iv xa g pr i (i + (L'.length + 1)) (pr i * wN g i) (fun r => walkL g.nodes.length (nextOf g) f r i (d + 1)) 0 A' Z) ∨ (o = .ret ∧ SameBut sb S Z ∧ VisO Z sb g.players nv iv g pr (i + (L'.length + 1)))) (wpc_block (wpc_loop (VisI S sb nv iv xa g pr i (i + (L'.length + 1)) (pr i * wN g i) (fun r => walkL g.nodes.length (nextOf g) f r i (d + 1))) ?_ (nodeAt g i).next.length _ _ ⟨rfl, ⟨sSX.1, fun c hc _ => sSX.2 c hc⟩, 0, i + 1, L', by omega, by rw [List.drop_zero]; exact hkids, by omega, .inr ⟨z, hscX, hst⟩, by simp only [↓sU, sD, reduceEqDiff, ↓reduceIte, reduceAdd, p0], by simp only [↓sU, sD, reduceEqDiff, ↓reduceIte, reduceAdd, p2], by simp only [↓sU, sD, reduceEqDiff, ↓reduceIte, reduceAdd], by simp only [↓sU, sD, reduceEqDiff, ↓reduceIte, reduceAdd], by simp only [↓sU, sD, reduceEqDiff, ↓reduceIte, reduceAdd]⟩)) ?_
    · clear p0 p2 p6 hkids
      rintro k ⟨F, inr⟩ V ⟨q0, hV, j, r, Tr, hjk, hkd, hre, hvo, p0, p2, p41, p42, p43⟩
      simp only at q0 p0 p2 p41 p42 p43
      subst q0
      have sV : Same S0 V := hV.same hS hsb
      have lsV : sb < V.nx := Nat.lt_of_lt_of_le hb hV.1
      refine wsr ?_
      simp only [↓sU, sD, reduceEqDiff, ↓reduceIte, reduceAdd, p42, p43]
      by_cases hj : j < (nodeAt g i).next.length
      rotate_left
      · refine wpc_seq (wpc_non (by simp only [↓sU, sD, reduceEqDiff, ↓reduceIte, reduceAdd, decide_eq_false (show ¬ (j : Int) < (((nodeAt g i).next.length : Nat) : Int) by omega)]) (wpc_exit ?_))
        simp only [↓sU, sD, reduceEqDiff, ↓reduceIte, reduceAdd]
        have hk0 : k = 0 := by omega
        subst hk0
        exact .inl ⟨rfl, hV, j, r, Tr, hjk, hkd, hre, hvo, by simp only [↓sU, sD, reduceEqDiff, ↓reduceIte, reduceAdd, p0], by simp only [↓sU, sD, reduceEqDiff, ↓reduceIte, reduceAdd, p2], by simp only [↓sU, sD, reduceEqDiff, ↓reduceIte, reduceAdd, p41], by simp only [↓sU, sD, reduceEqDiff, ↓reduceIte, reduceAdd, p42], by simp only [↓sU, sD, reduceEqDiff, ↓reduceIte, reduceAdd, p43]⟩
      refine wpc_seq (wpc_yes (by simp only [↓sU, sD, reduceEqDiff, ↓reduceIte, reduceAdd, decide_eq_true (show (j : Int) < (((nodeAt g i).next.length : Nat) : Int) by omega)]) (wpc_skip ?_))
      try simp only [↓sU, sD, reduceEqDiff, ↓reduceIte, reduceAdd]
      have hxaV := hxa.same sV
      have hiac := hxaV.iaddr hj
      have hlac := hxaV.ld hj
      have hdr : (nodeAt g i).next.drop j = (nodeAt g i).next[j] :: (nodeAt g i).next.drop (j + 1) := List.drop_eq_getElem_cons hj
      have hgd : (nodeAt g i).next.getD j 0 = (nodeAt g i).next[j] := by rw [List.getD_eq_getElem?_getD, List.getElem?_eq_getElem hj]; rfl
      rw [hdr, ← hgd] at hkd
      obtain ⟨hr1, hr2⟩ := G.good.kids i hlt j hj
      have hpk := P.kid i hlt j hj
      simp only [kidsL] at hkd
      split at hkd
      rotate_left
      · cases hkd
      rename_i hc
      obtain ⟨L1, hw1, hkd⟩ := Option.bind_eq_some_iff.1 hkd
      obtain ⟨L2, hw2, rfl⟩ := Option.map_eq_some_iff.1 hkd
      rw [List.length_append] at hre
      rw [hc] at hlac hpk
      rw [Int.toNat_natCast] at hpk
      have w1 : IntKind.i64.wrap ((j : Int) + 1) = ((j + 1 : Nat) : Int) := by have := G.good.nxt i hlt; rw [wrap_i64 (by omega) (by omega)]; omega
      refine wpc_seq (wpc_block (wpc_seq (wpc_reg ?_)))
      simp only [↓sU, sD, reduceEqDiff, ↓reduceIte, reduceAdd, p41, p43, natOf_cast, hiac, hlac]
      rcases hvo with ⟨z', hs', hn'⟩ | ⟨z', hs', hsome⟩
      · have hs'' : V.h.get sb = _ := hs'
        have l4 := ldc (j := 4) hs'' rfl
        refine wss ?_
        simp only [↓sU, sD, reduceEqDiff, ↓reduceIte, reduceAdd, p0, evQ_nilchk, nilchk_ptr, evQ_faddr, faddr_ptr, l4]
        refine wpc_yes (by simp only [↓sU, sD, reduceEqDiff, ↓reduceIte, reduceAdd]) (wpc_ret ?_)
        exact .inr ⟨rfl, hV, .inl ⟨z', hs', szF_none hn' (by omega)⟩⟩
      have hs'' : V.h.get sb = _ := hs'
      have l4 := ldc (j := 4) hs'' rfl
      refine wss ?_
      simp only [↓sU, sD, reduceEqDiff, ↓reduceIte, reduceAdd, p0, evQ_nilchk, nilchk_ptr, evQ_faddr, faddr_ptr, l4]
      refine wpc_non (by simp only [↓sU, sD, reduceEqDiff, ↓reduceIte, reduceAdd]) (wpc_skip ?_)
      try simp only [↓sU, sD, reduceEqDiff, ↓reduceIte, reduceAdd]
      refine wpc_reg ?_
      simp only [↓sU, sD, reduceEqDiff, ↓reduceIte, reduceAdd, p0, p2]
      refine wpo_call ?_
      simp only [↓sU, sD, reduceEqDiff, ↓reduceIte, reduceAdd]
      rw [← hpk]
      refine wpf_mono (ih hw1 sV lsV hs' hsome) ?_
      rintro _ Z ⟨hZ, hvo⟩
      try simp only [↓sU, sD, reduceEqDiff, ↓reduceIte, reduceAdd]
      refine wpc_reg ?_
      simp only [↓sU, sD, reduceEqDiff, ↓reduceIte, reduceAdd, p43, w1]
      exact ⟨k - 1, by omega, rfl, hV.trans hZ, j + 1, r + L1.length, L2, by omega, hw2, by omega, hvo, by simp only [↓sU, sD, reduceEqDiff, ↓reduceIte, reduceAdd, p0], by simp only [↓sU, sD, reduceEqDiff, ↓reduceIte, reduceAdd, p2, hpk], by simp only [↓sU, sD, reduceEqDiff, ↓reduceIte, reduceAdd, p41], by simp only [↓sU, sD, reduceEqDiff, ↓reduceIte, reduceAdd, p42], by simp only [↓sU, sD, reduceEqDiff, ↓reduceIte, reduceAdd]⟩
    clear p0 p2 p6
    rintro o ⟨F, inr⟩ V (⟨rfl, q0, hV, j, r, Tr, hjk, hkd, hre, hvo, _⟩ | ⟨rfl, h⟩)
    rotate_left
    · simp only [↓sU, sD, reduceEqDiff, ↓reduceIte, reduceAdd]
      exact h
    rw [List.drop_of_length_le (by omega)] at hkd
    simp only [kidsL, Option.some.injEq] at hkd
    subst hkd
    rw [List.length_nil, Nat.add_zero] at hre
    subst hre
    try simp only [↓sU, sD, reduceEqDiff, ↓reduceIte, reduceAdd]
    exact ⟨_, rfl, hV, hvo⟩
end Go.Ev.Gl

namespace Go.Ev.Gl
variable {fns : T AFn}

/-! ## Size of both sides -/
theorem build5 {F : Fr} {h : Ev.T AB} {ps : Int} {nv iv : AV} {s : Nat} (h1 : tmpV s F = .agg [.int .i64 ps, nv, iv]) : evQ (.build [.int .i64 0, .nilsl, .nilsl, .int .i64 0, .bool false] [(0, 3, .t s), (3, 1, .c (.int .i64 1))]) F h = some (.agg [.int .i64 ps, nv, iv, .int .i64 1, .bool false]) := by
  show (osel (fillP _ (partsV F [(0, 3, .t s), (3, 1, .c (.int .i64 1))])) fun cs => some (AV.agg cs)) = _
  simp only [partsV, show (Opd.t s).val F = .agg [.int .i64 ps, nv, iv] from h1, fillP, cells_agg, osel_some]
  rfl
theorem size_spec {S : St} {nv iv : AV} {g : PGame} {pr : Nat → Nat} (H : Has fns) (hn : IsSlG 6 NodeE S nv g.nodes) (hi : IsSlG 2 InfoE S iv g.infos) (hln : g.nodes.length ≤ 100000) (hpr : formE g = 0 → Prods g pr) :
    wpf fns (.fn 39 [] []) [.agg [.int .i64 g.players, nv, iv]] S fun r S' => Same S S' ∧ r = if formE g = 0 then .tup [.int .i64 (sizeN g pr), .int .i64 (sizeR g pr)] else .tup [.int .i64 0, .int .i64 (formE g)] := by
  refine wpf_fn H.f39 (by simp) ?_
  simp only [↓sU, sD, reduceEqDiff, ↓reduceIte, reduceAdd]
  refine wsr ?_
  refine wpo_box (cs := [.int .i64 g.players, nv, iv]) rfl ?_
  intro S1 s1 n1 c1
  simp only [↓sU, sD, reduceEqDiff, ↓reduceIte, reduceAdd]
  refine wss ?_
  simp only [↓sU, sD, reduceEqDiff, ↓reduceIte, reduceAdd, lg3_a c1]
  refine wpo_call ?_
  simp only [↓sU, sD, reduceEqDiff, ↓reduceIte, reduceAdd]
  refine wpf_mono (form_spec H (IsSlG.same (E := NodeE) firm_node hn s1) (IsSlG.same (E := InfoE) firm_info hi s1) hln) ?_
  rintro _ X ⟨rfl, hX⟩
  have sX := s1.trans hX
  have cX := (hX.2 _ (show S.nx < S1.nx by omega)).trans c1
  try simp only [↓sU, sD, reduceEqDiff, ↓reduceIte, reduceAdd]
  refine wsr ?_
  simp only [↓sU, sD, reduceEqDiff, ↓reduceIte, reduceAdd]
  by_cases h0 : formE g = 0
  rotate_left
  · rw [if_neg h0]
    refine wpc_yes (by simp only [↓sU, sD, reduceEqDiff, ↓reduceIte, reduceAdd, decide_eq_true (show formE g ≠ 0 from h0)]) ?_
    refine wsr ?_
    simp only [↓sU, sD, reduceEqDiff, ↓reduceIte, reduceAdd]
    refine wpc_ret ?_
    simp only [↓sU, sD, reduceEqDiff, ↓reduceIte, reduceAdd]
    exact sX
  rw [if_pos h0]
  have G := goodK_of h0
  have P := hpr h0
  obtain ⟨T, hT, hTl, _⟩ := G.good.walk
  refine wpc_non (by simp only [↓sU, sD, reduceEqDiff, ↓reduceIte, reduceAdd, decide_eq_false (show ¬ formE g ≠ 0 from fun h => h h0)]) (wpc_skip ?_)
  try simp only [↓sU, sD, reduceEqDiff, ↓reduceIte, reduceAdd]
  refine wsr ?_
  simp only [↓stU, stD, reduceEqDiff, ↓reduceIte, reduceAdd, lg3_a cX, isLoad_build]
  rw [build5 (ps := g.players) (nv := nv) (iv := iv) (by simp only [↓stU, stD, reduceEqDiff, ↓reduceIte, reduceAdd])]
  simp only [↓stU, stD, reduceEqDiff, ↓reduceIte, reduceAdd]
  refine wpo_box (cs := [.int .i64 g.players, nv, iv, .int .i64 1, .bool false]) (by simp only [↓stU, stD, reduceEqDiff, ↓reduceIte, reduceAdd]; exact cells_agg _) ?_
  intro Y y1 k1 g1
  simp only [↓stU, stD, reduceEqDiff, ↓reduceIte, reduceAdd]
  have sY := sX.trans y1
  refine wss ?_
  simp only [↓stU, stD, reduceEqDiff, ↓reduceIte, reduceAdd]
  refine wpo_call ?_
  simp only [↓stU, stD, reduceEqDiff, ↓reduceIte, reduceAdd]
  have hv := visit_spec (S0 := S) (sb := X.nx) (nv := nv) (iv := iv) H G P hn sX.1 (g.nodes.length + 1) (S := Y) (i := 0) (p := -1) (d := 0) (z := 1) (by unfold walkG at hT; exact hT) sY (by omega) g1 rfl
  rw [P.zero, Nat.zero_add, hTl] at hv
  refine wpf_mono hv ?_
  rintro _ Z ⟨hZ, hvo⟩
  have sZ : Same S Z := hZ.same sY sX.1
  rcases hvo with ⟨z, hs, hz⟩ | ⟨z, hs, hz⟩
  · have hs' : Z.h.get X.nx = _ := hs
    have l4 := ldc (j := 4) hs' rfl
    try simp only [↓stU, stD, reduceEqDiff, ↓reduceIte, reduceAdd]
    refine wsr ?_
    simp only [↓stU, stD, reduceEqDiff, ↓reduceIte, reduceAdd, evQ_nilchk, nilchk_ptr, evQ_faddr, faddr_ptr, l4]
    refine wpc_yes (by simp only [↓stU, stD, reduceEqDiff, ↓reduceIte, reduceAdd]) ?_
    refine wsr ?_
    simp only [↓stU, stD, reduceEqDiff, ↓reduceIte, reduceAdd]
    refine wpc_ret ?_
    simp only [↓stU, stD, reduceEqDiff, ↓reduceIte, reduceAdd]
    unfold sizeN sizeR
    rw [hz]
    exact ⟨sZ, rfl⟩
  · have hs' : Z.h.get X.nx = _ := hs
    have l4 := ldc (j := 4) hs' rfl
    have l3 := ldc (j := 3) hs' rfl
    try simp only [↓stU, stD, reduceEqDiff, ↓reduceIte, reduceAdd]
    refine wsr ?_
    simp only [↓stU, stD, reduceEqDiff, ↓reduceIte, reduceAdd, evQ_nilchk, nilchk_ptr, evQ_faddr, faddr_ptr, l4]
    refine wpc_non (by simp only [↓stU, stD, reduceEqDiff, ↓reduceIte, reduceAdd]) (wpc_skip ?_)
    try simp only [↓stU, stD, reduceEqDiff, ↓reduceIte, reduceAdd]
    refine wsr ?_
    simp only [↓stU, stD, reduceEqDiff, ↓reduceIte, reduceAdd, evQ_nilchk, nilchk_ptr, evQ_faddr, faddr_ptr, l3]
    refine wpc_ret ?_
    simp only [↓stU, stD, reduceEqDiff, ↓reduceIte, reduceAdd]
    unfold sizeN sizeR
    rw [hz]
    exact ⟨sZ, rfl⟩
end Go.Ev.Gl

namespace Go.Ev.Gl
variable {fns : T AFn}

/-! ## The reference's Size -/
def Below (g : PGame) (pr : Nat → Nat) (R : List Int) (n j : Nat) : Prop := R.length = g.nodes.length ∧ R.getD 0 0 = 1 ∧ ∀ q, q < g.nodes.length → ∀ k, k < (nodeAt g q).next.length → (q < n ∨ (q = n ∧ k < j)) → R.getD ((nodeAt g q).next.getD k 0).toNat 0 = ((pr ((nodeAt g q).next.getD k 0).toNat : Nat) : Int)
theorem Below.put {g : PGame} {pr : Nat → Nat} {R : List Int} {n j : Nat} (h : Below g pr R n j) (G : GoodK g) (hn : n < g.nodes.length) (hj : j < (nodeAt g n).next.length) : Below g pr (R.set ((nodeAt g n).next.getD j 0).toNat ((pr ((nodeAt g n).next.getD j 0).toNat : Nat) : Int)) n (j + 1) := by
  obtain ⟨b1, b2⟩ := G.good.kids n hn j hj
  have hlt : ((nodeAt g n).next.getD j 0).toNat < R.length := by rw [h.1]; omega
  refine ⟨by rw [List.length_set]; exact h.1, ?_, fun q hq k hk hw => ?_⟩
  · rw [getD_set0 hlt, if_neg (by omega)]; exact h.2.1
  · rw [getD_set0 hlt]
    split
    · rename_i e; rw [e]
    · rename_i e
      refine h.2.2 q hq k hk ?_
      rcases hw with hw | ⟨rfl, hw⟩
      · exact .inl hw
      · refine .inr ⟨rfl, ?_⟩
        rcases Nat.lt_or_ge k j with h1 | h1
        · exact h1
        · have e2 : k = j := by omega
          subst e2
          exact absurd rfl e
theorem Below.next {g : PGame} {pr : Nat → Nat} {R : List Int} {n j : Nat} (h : Below g pr R n j) (hj : (nodeAt g n).next.length ≤ j) : Below g pr R (n + 1) 0 :=
  ⟨h.1, h.2.1, fun q hq k hk hw => h.2.2 q hq k hk (by
    rcases hw with hw | hw
    · by_cases e : q = n
      · subst e; exact .inr ⟨rfl, by omega⟩
      · exact .inl (by omega)
    · omega)⟩
end Go.Ev.Gl
