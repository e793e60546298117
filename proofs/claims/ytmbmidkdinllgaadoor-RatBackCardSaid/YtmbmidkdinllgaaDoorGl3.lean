/- Contracts (3): rational numbers, the statements' tools, the law. -/
import Derived.Test.YtmbmidkdinllgaaDoorGl2
open Nat (reduceEqDiff)
set_option maxHeartbeats 4000000
set_option linter.unusedSimpArgs false
set_option linter.unusedVariables false
namespace Go.Ev.Gl
variable {fns : T AFn}

/-- short enough for a product of some such numbers -/
def Half (n : Nat) : Prop := n < B ^ 20000
def HalfR (q : Rat) : Prop := Half q.num.natAbs ∧ Half q.den
theorem Half.fits {n : Nat} (h : Half n) : Fits n := Fits.of h (by decide)
theorem Half.mono {n m : Nat} (h : Half m) (hn : n ≤ m) : Half n := Nat.lt_of_le_of_lt hn h
theorem Half.div {n m : Nat} (h : Half n) : Half (n / m) := h.mono (Nat.div_le_self ..)
theorem pow_B_pos (k : Nat) : 0 < B ^ k := Nat.pow_pos B_pos
theorem mul_lt_pow {a b i j : Nat} (ha : a < B ^ i) (hb : b < B ^ j) : a * b < B ^ (i + j) := by
  rw [Nat.pow_add]
  rcases Nat.eq_zero_or_pos b with h | h
  · subst h; rw [Nat.mul_zero]; exact Nat.mul_pos (pow_B_pos i) (pow_B_pos j)
  · exact Nat.lt_of_lt_of_le (Nat.mul_lt_mul_of_pos_right ha h) (Nat.mul_le_mul_left _ (Nat.le_of_lt hb))
theorem add_lt_pow {a b i : Nat} (ha : a < B ^ i) (hb : b < B ^ i) : a + b < B ^ (i + 1) := by
  rw [Nat.pow_succ]
  have hB : B = 1000000000 := rfl
  have : B ^ i * 2 ≤ B ^ i * B := Nat.mul_le_mul_left _ (by omega)
  omega
theorem Half.mul {a b : Nat} (ha : Half a) (hb : Half b) : Fits (a * b) := Fits.of (mul_lt_pow ha hb) (by decide)
theorem HalfR.fits {q : Rat} (h : HalfR q) : FitsR q := ⟨h.1.fits, h.2.fits⟩
theorem sg_mulr (s : Bool) (n k : Nat) : sg s (n * k) = sg s n * (k : Int) := by cases s <;> simp [sg] <;> grind

theorem plus_spec {S : St} {a b : AV} {p q : Rat} (H : Has fns) (hL : Laid S) (ha : RatIs S a p) (hb : RatIs S b q) (hp : HalfR p) (hq : HalfR q) : wpf fns (.fn 108 [] []) [a, b] S fun r S' => RatIs S' r (p + q) ∧ Same S S' := by
  obtain ⟨nv, dv, rfl, ha1, ha2⟩ := id ha
  obtain ⟨mv, ev, rfl, hb1, hb2⟩ := id hb
  obtain ⟨k, hk, hk0⟩ := lenpos ha1
  obtain ⟨j, hj, hj0⟩ := lenpos hb1
  obtain ⟨s, hs⟩ : ∃ s, decide (p.num < 0) = s := ⟨_, rfl⟩
  obtain ⟨t, ht⟩ : ∃ t, decide (q.num < 0) = t := ⟨_, rfl⟩
  have ep := sg_num p
  have eq := sg_num q
  rw [hs] at ep
  rw [ht] at eq
  rw [hs] at ha
  rw [ht] at hb
  rw [hs, ht]
  refine wpf_fn H.f108 (by simp) ?_
  simp only [↓stU, stD, reduceEqDiff, ↓reduceIte]
  refine wsr ?_
  refine wpo_box (by simp only [↓stU, stD, reduceEqDiff, ↓reduceIte, cells_agg]; rfl) ?_
  intro S1 hS1 hn1 hc1
  refine wpo_box (by simp only [↓stU, stD, reduceEqDiff, ↓reduceIte, cells_agg]; rfl) ?_
  intro S2 hS2 hn2 hc2
  refine wpo_alloc ?_
  intro S3 hS3 hn3 hc3
  simp only [↓stU, stD, reduceEqDiff, ↓reduceIte]
  have g1 : S3.h.get S.nx = some (.cells [.bool s, nv, dv] false 0) := by rw [hS3.2 _ (by omega), hS2.2 _ (by omega)]; exact hc1
  have g2 : S3.h.get S1.nx = some (.cells [.bool t, mv, ev] false 0) := by rw [hS3.2 _ (by omega)]; exact hc2
  have hS := hS1.trans (hS2.trans hS3)
  have go : ∀ (S4 : St), Same S3 S4 → ∀ (v : AV) (Q : Rat), RatIs S4 v Q → ∃ c0 c1 c2, v = .agg [c0, c1, c2] ∧ S4.h.get S2.nx = some (.cells [.bool false, .nilsl, .nilsl] false 0) ∧ ∀ S5, SameBut S2.nx S4 S5 → S5.h.get S2.nx = some (.cells [c0, c1, c2] false 0) → RatIs S5 (.agg [c0, c1, c2]) Q ∧ Same S S5 := by
    intro S4 hS4 v Q hv
    obtain ⟨c0, c1, c2, rfl⟩ := hv.cells
    have hb4 : S4.h.get S2.nx = some (.cells [.bool false, .nilsl, .nilsl] false 0) := by rw [hS4.2 _ (by omega)]; exact hc3
    exact ⟨c0, c1, c2, rfl, hb4, fun S5 hS5 hb5 => ⟨hv.st hb4 rfl hS5 hb5, hS5.same (hS.trans hS4) (by omega)⟩⟩
  refine wss ?_
  simp only [↓stU, stD, reduceEqDiff, ↓reduceIte, ↓stV, stW, Nat.reduceAdd, evQ_faddr, faddr_ptr, ld3_1 g1, hk]
  by_cases hk1 : k = 0
  · refine wpc_yes (by simp only [↓stU, stD, reduceEqDiff, ↓reduceIte, ↓stV, stW, Nat.reduceAdd, decide_eq_true (show (k : Int) = 0 by omega)]) ?_
    refine wsr ?_
    simp only [↓stU, stD, reduceEqDiff, ↓reduceIte, ↓stV, stW, Nat.reduceAdd, ld3 g2]
    refine wpo_call ?_
    try simp only [↓stU, stD, reduceEqDiff, ↓reduceIte, ↓stV, stW, Nat.reduceAdd]
    refine wpf_mono (clone_spec H (hb.same hS) hq.fits) ?_
    rintro v S4 ⟨hv, hS4⟩
    obtain ⟨c0, c1, c2, rfl, hb4, fin⟩ := go S4 hS4 v _ hv
    refine wpo_st (b := S2.nx) (by simp only [↓stU, stD, reduceEqDiff, ↓reduceIte, ↓stV, stW, Nat.reduceAdd]) (by simp only [↓stU, stD, reduceEqDiff, ↓reduceIte, ↓stV, stW, Nat.reduceAdd, cells_agg]; rfl) hb4 rfl rfl ?_
    intro S5 hS5 hn5 hb5
    try simp only [↓stU, stD, reduceEqDiff, ↓reduceIte, ↓stV, stW, Nat.reduceAdd]
    refine wpc_ret ?_
    simp only [↓stU, stD, reduceEqDiff, ↓reduceIte, ↓stV, stW, Nat.reduceAdd, results_cell, ld3 hb5]
    have hp0 := num_zero (hk0.1 hk1)
    rw [hp0, Rat.zero_add]
    exact fin S5 hS5 hb5
  refine wpc_non (by simp only [↓stU, stD, reduceEqDiff, ↓reduceIte, ↓stV, stW, Nat.reduceAdd, decide_eq_false (show ¬ (k : Int) = 0 by omega)]) (wpc_skip ?_)
  try simp only [↓stU, stD, reduceEqDiff, ↓reduceIte, ↓stV, stW, Nat.reduceAdd]
  refine wss ?_
  simp only [↓stU, stD, reduceEqDiff, ↓reduceIte, ↓stV, stW, Nat.reduceAdd, evQ_faddr, faddr_ptr, ld3_1 g2, hj]
  by_cases hj1 : j = 0
  · refine wpc_yes (by simp only [↓stU, stD, reduceEqDiff, ↓reduceIte, ↓stV, stW, Nat.reduceAdd, decide_eq_true (show (j : Int) = 0 by omega)]) ?_
    refine wsr ?_
    simp only [↓stU, stD, reduceEqDiff, ↓reduceIte, ↓stV, stW, Nat.reduceAdd, ld3 g1]
    refine wpo_call ?_
    try simp only [↓stU, stD, reduceEqDiff, ↓reduceIte, ↓stV, stW, Nat.reduceAdd]
    refine wpf_mono (clone_spec H (ha.same hS) hp.fits) ?_
    rintro v S4 ⟨hv, hS4⟩
    obtain ⟨c0, c1, c2, rfl, hb4, fin⟩ := go S4 hS4 v _ hv
    refine wpo_st (b := S2.nx) (by simp only [↓stU, stD, reduceEqDiff, ↓reduceIte, ↓stV, stW, Nat.reduceAdd]) (by simp only [↓stU, stD, reduceEqDiff, ↓reduceIte, ↓stV, stW, Nat.reduceAdd, cells_agg]; rfl) hb4 rfl rfl ?_
    intro S5 hS5 hn5 hb5
    try simp only [↓stU, stD, reduceEqDiff, ↓reduceIte, ↓stV, stW, Nat.reduceAdd]
    refine wpc_ret ?_
    simp only [↓stU, stD, reduceEqDiff, ↓reduceIte, ↓stV, stW, Nat.reduceAdd, results_cell, ld3 hb5]
    have hq0 := num_zero (hj0.1 hj1)
    rw [hq0, Rat.add_zero]
    exact fin S5 hS5 hb5
  refine wpc_non (by simp only [↓stU, stD, reduceEqDiff, ↓reduceIte, ↓stV, stW, Nat.reduceAdd, decide_eq_false (show ¬ (j : Int) = 0 by omega)]) (wpc_skip ?_)
  try simp only [↓stU, stD, reduceEqDiff, ↓reduceIte, ↓stV, stW, Nat.reduceAdd]
  have hpn : 0 < p.num.natAbs := by rcases Nat.eq_zero_or_pos p.num.natAbs with h | h
                                    · exact absurd (hk0.2 h) hk1
                                    · exact h
  have hqn : 0 < q.num.natAbs := by rcases Nat.eq_zero_or_pos q.num.natAbs with h | h
                                    · exact absurd (hj0.2 h) hj1
                                    · exact h
  have hpd := Nat.pos_of_ne_zero p.den_nz
  have hqd := Nat.pos_of_ne_zero q.den_nz
  obtain ⟨l1, i1, j1, v1⟩ := id ha1
  obtain ⟨l2, i2, j2, v2⟩ := id ha2
  obtain ⟨l3, i3, j3, v3⟩ := id hb1
  obtain ⟨l4, i4, j4, v4⟩ := id hb2
  refine wss ?_
  simp only [↓stU, stD, reduceEqDiff, ↓reduceIte, ↓stV, stW, Nat.reduceAdd, ld3 g1, ld3 g2]
  refine wpo_call ?_
  try simp only [↓stU, stD, reduceEqDiff, ↓reduceIte, ↓stV, stW, Nat.reduceAdd]
  refine wpf_mono (oneLimb_spec H (i1.same hS) (i2.same hS) (i3.same hS) (i4.same hS)) ?_
  rintro _ S4 ⟨rfl, hS4⟩
  try simp only [↓stU, stD, reduceEqDiff, ↓reduceIte, ↓stV, stW, Nat.reduceAdd]
  have f1 : S4.h.get S.nx = some (.cells [.bool s, nv, dv] false 0) := by rw [hS4.2 _ (by omega)]; exact g1
  have f2 : S4.h.get S1.nx = some (.cells [.bool t, mv, ev] false 0) := by rw [hS4.2 _ (by omega)]; exact g2
  have hSS := hS.trans hS4
  by_cases hone : l1.length = 1 ∧ l2.length = 1 ∧ l3.length = 1 ∧ l4.length = 1
  · refine wpc_yes (by simp only [↓stU, stD, reduceEqDiff, ↓reduceIte, ↓stV, stW, Nat.reduceAdd, decide_eq_true hone]) ?_
    obtain ⟨o1, o2, o3, o4⟩ := hone
    obtain ⟨x1, rfl⟩ := List.length_eq_one_iff.1 o1
    obtain ⟨y1, rfl⟩ := List.length_eq_one_iff.1 o2
    obtain ⟨x2, rfl⟩ := List.length_eq_one_iff.1 o3
    obtain ⟨y2, rfl⟩ := List.length_eq_one_iff.1 o4
    have u1 : x1 = p.num.natAbs := by rw [← v1]; simp [val_cons, val_nil]
    have u2 : y1 = p.den := by rw [← v2]; simp [val_cons, val_nil]
    have u3 : x2 = q.num.natAbs := by rw [← v3]; simp [val_cons, val_nil]
    have u4 : y2 = q.den := by rw [← v4]; simp [val_cons, val_nil]
    refine wsr ?_
    simp only [↓stU, stD, reduceEqDiff, ↓reduceIte, ↓stV, stW, Nat.reduceAdd, ld3 f1, ld3 f2]
    refine wpo_call ?_
    try simp only [↓stU, stD, reduceEqDiff, ↓reduceIte, ↓stV, stW, Nat.reduceAdd]
    refine wpf_mono (plusWords_spec H (hL.same hSS) (i1.same hSS) (i2.same hSS) (i3.same hSS) (i4.same hSS) (j1.1 _ (by simp)) (j2.1 _ (by simp)) (j3.1 _ (by simp)) (j4.1 _ (by simp)) (by omega) (by omega) (by omega) (by omega)) ?_
    rintro v S5 ⟨hv, hS5⟩
    obtain ⟨c0, c1, c2, rfl, hb5, fin⟩ := go S5 (hS4.trans hS5) v _ hv
    refine wpo_st (b := S2.nx) (by simp only [↓stU, stD, reduceEqDiff, ↓reduceIte, ↓stV, stW, Nat.reduceAdd]) (by simp only [↓stU, stD, reduceEqDiff, ↓reduceIte, ↓stV, stW, Nat.reduceAdd, cells_agg]; rfl) hb5 rfl rfl ?_
    intro S6 hS6 hn6 hb6
    try simp only [↓stU, stD, reduceEqDiff, ↓reduceIte, ↓stV, stW, Nat.reduceAdd]
    refine wpc_ret ?_
    simp only [↓stU, stD, reduceEqDiff, ↓reduceIte, ↓stV, stW, Nat.reduceAdd, results_cell, ld3 hb6]
    have e : p + q = mkRat (sg s x1) y1 + mkRat (sg t x2) y2 := by
      rw [u1, u2, u3, u4, ep, eq, Rat.mkRat_self, Rat.mkRat_self]
    rw [e]
    exact fin S6 hS6 hb6
  refine wpc_non (by simp only [↓stU, stD, reduceEqDiff, ↓reduceIte, ↓stV, stW, Nat.reduceAdd, decide_eq_false hone]) (wpc_skip ?_)
  try simp only [↓stU, stD, reduceEqDiff, ↓reduceIte, ↓stV, stW, Nat.reduceAdd]
  refine wsr ?_
  simp only [↓stU, stD, reduceEqDiff, ↓reduceIte, ↓stV, stW, Nat.reduceAdd, evQ_faddr, faddr_ptr, ld3_2 f1, ld3_2 f2]
  refine wpo_call ?_
  try simp only [↓stU, stD, reduceEqDiff, ↓reduceIte, ↓stV, stW, Nat.reduceAdd]
  refine wpf_mono (gcd_spec H (hL.same hSS) (ha2.same hSS) (hb2.same hSS) hp.2.fits hq.2.fits) ?_
  rintro gv S5 ⟨hgv, hS5⟩
  try simp only [↓stU, stD, reduceEqDiff, ↓reduceIte, ↓stV, stW, Nat.reduceAdd]
  obtain ⟨g, hg⟩ : ∃ g, g = Nat.gcd p.den q.den := ⟨_, rfl⟩
  have hgp : 0 < g := by rw [hg]; exact Nat.gcd_pos_of_pos_left _ hpd
  rw [← hg] at hgv
  have hS5' := hSS.trans hS5
  have e1 : S5.h.get S.nx = some (.cells [.bool s, nv, dv] false 0) := by have := hS4.1; rw [hS5.2 _ (by omega)]; exact f1
  have e2 : S5.h.get S1.nx = some (.cells [.bool t, mv, ev] false 0) := by have := hS4.1; rw [hS5.2 _ (by omega)]; exact f2
  have lt1 : S.nx < S5.nx := by have := hS4.1; have := hS5.1; omega
  have lt2 : S1.nx < S5.nx := by have := hS4.1; have := hS5.1; omega
  refine wpc_seq (wpc_drd1 (fun _ => False) ?_)
  intro S6 hS6
  simp only [↓stU, stD, reduceEqDiff, ↓reduceIte, ↓stV, stW, Nat.reduceAdd, evQ_faddr, faddr_ptr, isLoad_faddr, ld3_2 e1, lt1, lt2, not_false_eq_true, nat_self ha2]
  refine runD_call0 rfl ?_
  try simp only [↓stU, stD, reduceEqDiff, ↓reduceIte, ↓stV, stW, Nat.reduceAdd]
  refine wpf_mono (over_spec H (ha2.same (hS5'.trans hS6)) (hgv.same hS6) hp.2.fits hgp) ?_
  rintro dA S7 ⟨hdA, hS7⟩
  refine ⟨hS7, ?_⟩
  simp only [↓stU, stD, reduceEqDiff, ↓reduceIte, ↓stV, stW, Nat.reduceAdd, evQ_faddr, faddr_ptr, isLoad_faddr, ld3_2 e2, lt1, lt2, not_false_eq_true, nat_self hb2]
  refine runD_call0 rfl ?_
  try simp only [↓stU, stD, reduceEqDiff, ↓reduceIte, ↓stV, stW, Nat.reduceAdd]
  have h67 := hS6.trans hS7
  refine wpf_mono (over_spec H (hb2.same (hS5'.trans h67)) (hgv.same h67) hq.2.fits hgp) ?_
  rintro dB S8 ⟨hdB, hS8⟩
  refine ⟨hS8, ?_⟩
  try simp only [↓stU, stD, reduceEqDiff, ↓reduceIte, ↓stV, stW, Nat.reduceAdd]
  have h68 := h67.trans hS8
  have r1 : S8.h.get S.nx = some (.cells [.bool s, nv, dv] false 0) := by rw [h68.2 _ lt1]; exact e1
  have r2 : S8.h.get S1.nx = some (.cells [.bool t, mv, ev] false 0) := by rw [h68.2 _ lt2]; exact e2
  have lt1' : S.nx < S8.nx := Nat.lt_of_lt_of_le lt1 h68.1
  have lt2' : S1.nx < S8.nx := Nat.lt_of_lt_of_le lt2 h68.1
  have hS8' := hS5'.trans h68
  refine wpc_seq (wpc_drd1 (fun _ => False) ?_)
  intro S9 hS9
  simp only [↓stU, stD, reduceEqDiff, ↓reduceIte, ↓stV, stW, Nat.reduceAdd, evQ_faddr, faddr_ptr, isLoad_faddr, ld3_0 r1, ld3_1 r1, lt1', lt2', not_false_eq_true, nat_self ha1]
  refine runD_call0 rfl ?_
  try simp only [↓stU, stD, reduceEqDiff, ↓reduceIte, ↓stV, stW, Nat.reduceAdd]
  refine wpf_mono (mul_spec H.f103 H.f64 (ha1.same (hS8'.trans hS9)) (hdB.same hS9) hp.1.fits hq.2.div.fits) ?_
  rintro xv S10 ⟨hxv, hS10⟩
  refine ⟨hS10, ?_⟩
  simp only [↓stU, stD, reduceEqDiff, ↓reduceIte, ↓stV, stW, Nat.reduceAdd, evQ_faddr, faddr_ptr, isLoad_faddr, ld3_0 r2, ld3_1 r2, lt1', lt2', not_false_eq_true, nat_self hb1]
  refine runD_call0 rfl ?_
  try simp only [↓stU, stD, reduceEqDiff, ↓reduceIte, ↓stV, stW, Nat.reduceAdd]
  have h910 := hS9.trans hS10
  refine wpf_mono (mul_spec H.f103 H.f64 (hb1.same (hS8'.trans h910)) (hdA.same (hS8.trans h910)) hq.1.fits hp.2.div.fits) ?_
  rintro yv S11 ⟨hyv, hS11⟩
  refine ⟨hS11, ?_⟩
  try simp only [↓stU, stD, reduceEqDiff, ↓reduceIte, ↓stV, stW, Nat.reduceAdd]
  refine runD_call0 rfl ?_
  try simp only [↓stU, stD, reduceEqDiff, ↓reduceIte, ↓stV, stW, Nat.reduceAdd]
  have hX := mul_lt_pow hp.1 hq.2.div (b := q.den / g)
  have hY := mul_lt_pow hq.1 hp.2.div (b := p.den / g)
  refine wpf_mono (join_spec H (hxv.same hS11) hyv (hp.1.mul hq.2.div) (hq.1.mul hp.2.div)) ?_
  rintro _ S12 ⟨u, zv, m, rfl, hzv, hm, hS12⟩
  refine ⟨hS12, ?_⟩
  simp only [↓stU, stD, reduceEqDiff, ↓reduceIte, ↓stV, stW, Nat.reduceAdd, ex0, ex1]
  rw [sg_mulr, sg_mulr, ep, eq] at hm
  have hmabs : m = (p.num * (q.den / g : Nat) + q.num * (p.den / g : Nat)).natAbs := by rw [← hm, sg_natAbs]
  have a1 := Int.natAbs_add_le (p.num * (q.den / g : Nat)) (q.num * (p.den / g : Nat))
  rw [← hmabs, Int.natAbs_mul, Int.natAbs_mul, Int.natAbs_natCast, Int.natAbs_natCast] at a1
  have hmF := Nat.lt_of_le_of_lt a1 (add_lt_pow hX hY)
  have hmFit : Fits m := Fits.of hmF (by decide)
  have low := plus_low (n1 := p.num) (n2 := q.num) (d1 := p.den) (d2 := q.den) (g := g) (c := Nat.gcd m g) p.reduced q.reduced p.den_nz q.den_nz hg (by rw [← hmabs]) u hm
  rw [Rat.mkRat_self, Rat.mkRat_self] at low
  obtain ⟨lo1, lo2, lo3⟩ := low
  have h912 := h910.trans (hS11.trans hS12)
  have hS12' := hS8'.trans h912
  have z1 : S12.h.get S.nx = some (.cells [.bool s, nv, dv] false 0) := by rw [h912.2 _ lt1']; exact r1
  have z2 : S12.h.get S1.nx = some (.cells [.bool t, mv, ev] false 0) := by rw [h912.2 _ lt2']; exact r2
  have lt1'' : S.nx < S12.nx := Nat.lt_of_lt_of_le lt1' h912.1
  have lt2'' : S1.nx < S12.nx := Nat.lt_of_lt_of_le lt2' h912.1
  have h312 : Same S3 S12 := hS4.trans (hS5.trans (h68.trans h912))
  obtain ⟨kz, hkz, hkz0⟩ := lenpos hzv
  refine wss ?_
  simp only [↓stU, stD, reduceEqDiff, ↓reduceIte, ↓stV, stW, Nat.reduceAdd, hkz]
  by_cases hm0 : m = 0
  · have := hkz0.2 hm0
    refine wpc_yes (by simp only [↓stU, stD, reduceEqDiff, ↓reduceIte, ↓stV, stW, Nat.reduceAdd, decide_eq_true (show (kz : Int) = 0 by omega)]) ?_
    refine wsr ?_
    refine wpo_call ?_
    try simp only [↓stU, stD, reduceEqDiff, ↓reduceIte, ↓stV, stW, Nat.reduceAdd]
    refine wpf_mono (zero_spec H) ?_
    rintro v S13 ⟨hv, hS13⟩
    obtain ⟨c0, c1, c2, rfl, hb13, fin⟩ := go S13 (h312.trans hS13) v _ hv
    refine wpo_st (b := S2.nx) (by simp only [↓stU, stD, reduceEqDiff, ↓reduceIte, ↓stV, stW, Nat.reduceAdd]) (by simp only [↓stU, stD, reduceEqDiff, ↓reduceIte, ↓stV, stW, Nat.reduceAdd, cells_agg]; rfl) hb13 rfl rfl ?_
    intro S14 hS14 hn14 hb14
    try simp only [↓stU, stD, reduceEqDiff, ↓reduceIte, ↓stV, stW, Nat.reduceAdd]
    refine wpc_ret ?_
    simp only [↓stU, stD, reduceEqDiff, ↓reduceIte, ↓stV, stW, Nat.reduceAdd, results_cell, ld3 hb14]
    have e : p + q = 0 := by
      rw [← lo1, hm0, Nat.zero_div]
      cases u <;> simp [sg]
    rw [e]
    exact fin S14 hS14 hb14
  have hkzn : ¬ kz = 0 := fun h => hm0 (hkz0.1 h)
  refine wpc_non (by simp only [↓stU, stD, reduceEqDiff, ↓reduceIte, ↓stV, stW, Nat.reduceAdd, decide_eq_false (show ¬ (kz : Int) = 0 by omega)]) (wpc_skip ?_)
  try simp only [↓stU, stD, reduceEqDiff, ↓reduceIte, ↓stV, stW, Nat.reduceAdd]
  have hgv12 := hgv.same (h68.trans h912)
  obtain ⟨gl, gl1, gl2, gl3⟩ := id hgv12
  refine wss ?_
  try simp only [↓stU, stD, reduceEqDiff, ↓reduceIte, ↓stV, stW, Nat.reduceAdd]
  refine wpo_call ?_
  try simp only [↓stU, stD, reduceEqDiff, ↓reduceIte, ↓stV, stW, Nat.reduceAdd]
  refine wpf_mono (isOne H.f91 gl1) ?_
  rintro _ T ⟨rfl, hT⟩
  rw [hT]
  try simp only [↓stU, stD, reduceEqDiff, ↓reduceIte, ↓stV, stW, Nat.reduceAdd]
  by_cases hg1 : gl = [1]
  · refine wpc_yes (by simp only [↓stU, stD, reduceEqDiff, ↓reduceIte, ↓stV, stW, Nat.reduceAdd, decide_eq_true hg1]) ?_
    have hge : g = 1 := by rw [← gl3, hg1, val_one]
    refine wsr ?_
    simp only [↓stU, stD, reduceEqDiff, ↓reduceIte, ↓stV, stW, Nat.reduceAdd, evQ_faddr, faddr_ptr, ld3_2 z1, ld3_2 z2]
    refine wpo_call ?_
    try simp only [↓stU, stD, reduceEqDiff, ↓reduceIte, ↓stV, stW, Nat.reduceAdd]
    refine wpf_mono (mul_spec H.f103 H.f64 (ha2.same hS12') (hb2.same hS12') hp.2.fits hq.2.fits) ?_
    rintro dd S13 ⟨hdd, hS13⟩
    simp only [↓stU, stD, reduceEqDiff, ↓reduceIte, ↓stV, stW, Nat.reduceAdd, evQ_b3, cells_bool, nat_cells hzv, nat_cells hdd]
    rw [hge, Nat.gcd_one_right, Nat.div_one, Nat.div_one, Nat.div_one] at lo1 lo2
    have hv : RatIs S13 (.agg [.bool u, zv, dd]) (p + q) := by
      rw [← lo1]
      exact ratIs_mk (hzv.same hS13) hdd (Nat.mul_ne_zero p.den_nz q.den_nz) lo2 (fun h => absurd h hm0)
    obtain ⟨c0, c1, c2, he, hb13, fin⟩ := go S13 (h312.trans hS13) _ _ hv
    cases he
    refine wpo_st (b := S2.nx) (by simp only [↓stU, stD, reduceEqDiff, ↓reduceIte, ↓stV, stW, Nat.reduceAdd]) (by simp only [↓stU, stD, reduceEqDiff, ↓reduceIte, ↓stV, stW, Nat.reduceAdd, cells_agg]; rfl) hb13 rfl rfl ?_
    intro S14 hS14 hn14 hb14
    try simp only [↓stU, stD, reduceEqDiff, ↓reduceIte, ↓stV, stW, Nat.reduceAdd]
    refine wpc_ret ?_
    simp only [↓stU, stD, reduceEqDiff, ↓reduceIte, ↓stV, stW, Nat.reduceAdd, results_cell, ld3 hb14]
    exact fin S14 hS14 hb14
  refine wpc_non (by simp only [↓stU, stD, reduceEqDiff, ↓reduceIte, ↓stV, stW, Nat.reduceAdd, decide_eq_false hg1]) (wpc_skip ?_)
  try simp only [↓stU, stD, reduceEqDiff, ↓reduceIte, ↓stV, stW, Nat.reduceAdd]
  refine wsr ?_
  try simp only [↓stU, stD, reduceEqDiff, ↓reduceIte, ↓stV, stW, Nat.reduceAdd]
  refine wpo_call ?_
  try simp only [↓stU, stD, reduceEqDiff, ↓reduceIte, ↓stV, stW, Nat.reduceAdd]
  have hgF : Fits g := hp.2.fits.mono (by rw [hg]; exact Nat.gcd_le_left _ hpd)
  refine wpf_mono (gcd_spec H (hL.same hS12') hzv hgv12 hmFit hgF) ?_
  rintro cv S13 ⟨hcv, hS13⟩
  try simp only [↓stU, stD, reduceEqDiff, ↓reduceIte, ↓stV, stW, Nat.reduceAdd]
  obtain ⟨c, hc⟩ : ∃ c, c = Nat.gcd m g := ⟨_, rfl⟩
  rw [← hc] at hcv lo1 lo2 lo3
  have hcp : 0 < c := by rw [hc]; exact Nat.gcd_pos_of_pos_right _ hgp
  have lt2''' : S1.nx < S13.nx := Nat.lt_of_lt_of_le lt2'' hS13.1
  have y2 : S13.h.get S1.nx = some (.cells [.bool t, mv, ev] false 0) := by rw [hS13.2 _ lt2'']; exact z2
  have ne2 : ¬ S1.nx = S2.nx := by omega
  refine wpc_seq (wpc_drd1 (fun x => x = S2.nx) ?_)
  intro S14 hS14
  try simp only [↓stU, stD, reduceEqDiff, ↓reduceIte, ↓stV, stW, Nat.reduceAdd]
  refine runD_call0 rfl ?_
  try simp only [↓stU, stD, reduceEqDiff, ↓reduceIte, ↓stV, stW, Nat.reduceAdd]
  refine wpf_mono (over_spec H (hzv.same (hS13.trans hS14)) (hcv.same hS14) hmFit hcp) ?_
  rintro w1 S15 ⟨hw1, hS15⟩
  refine ⟨hS15, ?_⟩
  simp only [↓stU, stD, reduceEqDiff, ↓reduceIte, ↓stV, stW, Nat.reduceAdd, evQ_faddr, faddr_ptr, isLoad_faddr, ld3_2 y2, lt2''', ne2, not_false_eq_true, nat_self hb2]
  refine runD_call0 rfl ?_
  try simp only [↓stU, stD, reduceEqDiff, ↓reduceIte, ↓stV, stW, Nat.reduceAdd]
  have h1415 := hS14.trans hS15
  refine wpf_mono (over_spec H (hb2.same (hS12'.trans (hS13.trans h1415))) (hcv.same h1415) hq.2.fits hcp) ?_
  rintro w2 S16 ⟨hw2, hS16⟩
  refine ⟨hS16, ?_⟩
  try simp only [↓stU, stD, reduceEqDiff, ↓reduceIte, ↓stV, stW, Nat.reduceAdd]
  refine runD_call0 rfl ?_
  try simp only [↓stU, stD, reduceEqDiff, ↓reduceIte, ↓stV, stW, Nat.reduceAdd]
  have h1416 := h1415.trans hS16
  refine wpf_mono (mul_spec H.f103 H.f64 (hdA.same (hS8.trans (h912.trans (hS13.trans h1416)))) hw2 hp.2.div.fits hq.2.div.fits) ?_
  rintro w3 S17 ⟨hw3, hS17⟩
  refine ⟨hS17, ?_⟩
  simp only [↓stU, stD, reduceEqDiff, ↓reduceIte, ↓stV, stW, Nat.reduceAdd, isLoad_build, evQ_b3, cells_bool, nat_cells hw1, nat_cells hw3]
  have hv : RatIs S17 (.agg [.bool u, w1, w3]) (p + q) := by
    rw [← lo1]
    refine ratIs_mk (hw1.same (hS16.trans hS17)) hw3 lo3 lo2 (fun h => ?_)
    have : c ∣ m := by rw [hc]; exact Nat.gcd_dvd_left ..
    have := Nat.div_pos (Nat.le_of_dvd (by omega) this) hcp
    omega
  obtain ⟨c0, c1, c2, he, hb17, fin⟩ := go S17 (h312.trans (hS13.trans (h1416.trans hS17))) _ _ hv
  cases he
  refine runD_st0 (b := S2.nx) rfl (by simp only [↓stU, stD, reduceEqDiff, ↓reduceIte, ↓stV, stW, Nat.reduceAdd]) (by simp only [↓stU, stD, reduceEqDiff, ↓reduceIte, ↓stV, stW, Nat.reduceAdd, cells_agg]; rfl) hb17 rfl rfl rfl ?_
  intro S18 hS18 hn18 hb18
  try simp only [↓stU, stD, reduceEqDiff, ↓reduceIte, ↓stV, stW, Nat.reduceAdd]
  refine wpc_ret ?_
  simp only [↓stU, stD, reduceEqDiff, ↓reduceIte, ↓stV, stW, Nat.reduceAdd, results_cell, ld3 hb18]
  exact fin S18 hS18 hb18
end Go.Ev.Gl

namespace Go.Ev.Gl
variable {fns : T AFn}

theorem rtimes_spec {S : St} {a b : AV} {p q : Rat} (H : Has fns) (hL : Laid S) (ha : RatIs S a p) (hb : RatIs S b q) (hp : HalfR p) (hq : HalfR q) : wpf fns (.fn 105 [] []) [a, b] S fun r S' => RatIs S' r (p * q) ∧ Same S S' := by
  have hB : B = 1000000000 := rfl
  obtain ⟨nv, dv, rfl, ha1, ha2⟩ := id ha
  obtain ⟨mv, ev, rfl, hb1, hb2⟩ := id hb
  obtain ⟨k, hk, hk0⟩ := lenpos ha1
  obtain ⟨j, hj, hj0⟩ := lenpos hb1
  obtain ⟨s, hs⟩ : ∃ s, decide (p.num < 0) = s := ⟨_, rfl⟩
  obtain ⟨t, ht⟩ : ∃ t, decide (q.num < 0) = t := ⟨_, rfl⟩
  have ep := sg_num p
  have eq := sg_num q
  rw [hs] at ep
  rw [ht] at eq
  rw [hs] at ha
  rw [ht] at hb
  rw [hs, ht]
  refine wpf_fn H.f105 (by simp) ?_
  simp only [↓stU, stD, reduceEqDiff, ↓reduceIte]
  refine wsr ?_
  refine wpo_box (by simp only [↓stU, stD, reduceEqDiff, ↓reduceIte, cells_agg]; rfl) ?_
  intro S1 hS1 hn1 hc1
  refine wpo_box (by simp only [↓stU, stD, reduceEqDiff, ↓reduceIte, cells_agg]; rfl) ?_
  intro S2 hS2 hn2 hc2
  refine wpo_alloc ?_
  intro S3 hS3 hn3 hc3
  simp only [↓stU, stD, reduceEqDiff, ↓reduceIte]
  have g1 : S3.h.get S.nx = some (.cells [.bool s, nv, dv] false 0) := by rw [hS3.2 _ (by omega), hS2.2 _ (by omega)]; exact hc1
  have g2 : S3.h.get S1.nx = some (.cells [.bool t, mv, ev] false 0) := by rw [hS3.2 _ (by omega)]; exact hc2
  have hS := hS1.trans (hS2.trans hS3)
  have go : ∀ (S4 : St), Same S3 S4 → ∀ (v : AV) (Q : Rat), RatIs S4 v Q → ∃ c0 c1 c2, v = .agg [c0, c1, c2] ∧ S4.h.get S2.nx = some (.cells [.bool false, .nilsl, .nilsl] false 0) ∧ ∀ S5, SameBut S2.nx S4 S5 → S5.h.get S2.nx = some (.cells [c0, c1, c2] false 0) → RatIs S5 (.agg [c0, c1, c2]) Q ∧ Same S S5 := by
    intro S4 hS4 v Q hv
    obtain ⟨c0, c1, c2, rfl⟩ := hv.cells
    have hb4 : S4.h.get S2.nx = some (.cells [.bool false, .nilsl, .nilsl] false 0) := by rw [hS4.2 _ (by omega)]; exact hc3
    exact ⟨c0, c1, c2, rfl, hb4, fun S5 hS5 hb5 => ⟨hv.st hb4 rfl hS5 hb5, hS5.same (hS.trans hS4) (by omega)⟩⟩
  by_cases hz : k = 0 ∨ j = 0
  · have e : p * q = 0 := by
      rcases hz with h | h
      · rw [num_zero (hk0.1 h), Rat.zero_mul]
      · rw [num_zero (hj0.1 h), Rat.mul_zero]
    refine wpc_seq (wpc_seq (wpc_mono (Q := fun o A' S' => o = .normal ∧ S' = S3 ∧ tmpV 4 A'.F = .ptr S2.nx 0 ∧ tmpV 18 A'.F = .bool true) ?_ ?_))
    · refine wpc_reg ?_
      by_cases hk1 : k = 0
      · simp only [↓stU, stD, reduceEqDiff, ↓reduceIte, ↓stV, stW, Nat.reduceAdd, evQ_faddr, faddr_ptr, ld3_1 g1, hk, decide_eq_true (show (k : Int) = 0 by omega)]
      · have hj1 : j = 0 := by omega
        simp only [↓stU, stD, reduceEqDiff, ↓reduceIte, ↓stV, stW, Nat.reduceAdd, evQ_faddr, faddr_ptr, ld3_1 g1, ld3_1 g2, hk, hj, decide_eq_false (show ¬ (k : Int) = 0 by omega), decide_eq_true (show (j : Int) = 0 by omega)]
    rintro o ⟨F, inr⟩ S' ⟨rfl, hS', p4, p18⟩
    simp only at p4 p18
    rw [hS']
    try simp only [↓stU, stD, reduceEqDiff, ↓reduceIte, ↓stV, stW, Nat.reduceAdd]
    refine wpc_yes (by simp only [↓stU, stD, reduceEqDiff, ↓reduceIte, ↓stV, stW, Nat.reduceAdd, p18]) ?_
    refine wsr ?_
    refine wpo_call ?_
    try simp only [↓stU, stD, reduceEqDiff, ↓reduceIte, ↓stV, stW, Nat.reduceAdd]
    refine wpf_mono (zero_spec H) ?_
    rintro v S4 ⟨hv, hS4⟩
    obtain ⟨c0, c1, c2, rfl, hb4, fin⟩ := go S4 hS4 v _ hv
    refine wpo_st (b := S2.nx) (by simp only [↓stU, stD, reduceEqDiff, ↓reduceIte, ↓stV, stW, Nat.reduceAdd, p4]) (by simp only [↓stU, stD, reduceEqDiff, ↓reduceIte, ↓stV, stW, Nat.reduceAdd, cells_agg]; rfl) hb4 rfl rfl ?_
    intro S5 hS5 hn5 hb5
    try simp only [↓stU, stD, reduceEqDiff, ↓reduceIte, ↓stV, stW, Nat.reduceAdd]
    refine wpc_ret ?_
    simp only [↓stU, stD, reduceEqDiff, ↓reduceIte, ↓stV, stW, Nat.reduceAdd, results_cell, p4, ld3 hb5]
    rw [e]
    exact fin S5 hS5 hb5
  refine wss ?_
  simp only [↓stU, stD, reduceEqDiff, ↓reduceIte, ↓stV, stW, Nat.reduceAdd, evQ_faddr, faddr_ptr, ld3_1 g1, ld3_1 g2, hk, hj, decide_eq_false (show ¬ (k : Int) = 0 by omega), decide_eq_false (show ¬ (j : Int) = 0 by omega)]
  refine wpc_non (by simp only [↓stU, stD, reduceEqDiff, ↓reduceIte, ↓stV, stW, Nat.reduceAdd]) (wpc_skip ?_)
  try simp only [↓stU, stD, reduceEqDiff, ↓reduceIte, ↓stV, stW, Nat.reduceAdd]
  have hpn : 0 < p.num.natAbs := by rcases Nat.eq_zero_or_pos p.num.natAbs with h | h
                                    · exact absurd (.inl (hk0.2 h)) hz
                                    · exact h
  have hqn : 0 < q.num.natAbs := by rcases Nat.eq_zero_or_pos q.num.natAbs with h | h
                                    · exact absurd (.inr (hj0.2 h)) hz
                                    · exact h
  have hpd := Nat.pos_of_ne_zero p.den_nz
  have hqd := Nat.pos_of_ne_zero q.den_nz
  refine wsr ?_
  simp only [↓stU, stD, reduceEqDiff, ↓reduceIte, ↓stV, stW, Nat.reduceAdd, evQ_faddr, faddr_ptr, ld3_0 g1, ld3_0 g2, ne_bool]
  obtain ⟨l1, i1, j1, v1⟩ := id ha1
  obtain ⟨l2, i2, j2, v2⟩ := id ha2
  obtain ⟨l3, i3, j3, v3⟩ := id hb1
  obtain ⟨l4, i4, j4, v4⟩ := id hb2
  refine wss ?_
  simp only [↓stU, stD, reduceEqDiff, ↓reduceIte, ↓stV, stW, Nat.reduceAdd, ld3 g1, ld3 g2]
  refine wpo_call ?_
  try simp only [↓stU, stD, reduceEqDiff, ↓reduceIte, ↓stV, stW, Nat.reduceAdd]
  refine wpf_mono (oneLimb_spec H (i1.same hS) (i2.same hS) (i3.same hS) (i4.same hS)) ?_
  rintro _ S4 ⟨rfl, hS4⟩
  try simp only [↓stU, stD, reduceEqDiff, ↓reduceIte, ↓stV, stW, Nat.reduceAdd]
  have f1 : S4.h.get S.nx = some (.cells [.bool s, nv, dv] false 0) := by rw [hS4.2 _ (by omega)]; exact g1
  have f2 : S4.h.get S1.nx = some (.cells [.bool t, mv, ev] false 0) := by rw [hS4.2 _ (by omega)]; exact g2
  have hSS := hS.trans hS4
  have lt1 : S.nx < S4.nx := by have := hS4.1; omega
  have lt2 : S1.nx < S4.nx := by have := hS4.1; omega
  have ne1 : ¬ S.nx = S2.nx := by omega
  have ne2 : ¬ S1.nx = S2.nx := by omega
  by_cases hone : l1.length = 1 ∧ l2.length = 1 ∧ l3.length = 1 ∧ l4.length = 1
  · refine wpc_yes (by simp only [↓stU, stD, reduceEqDiff, ↓reduceIte, ↓stV, stW, Nat.reduceAdd, decide_eq_true hone]) ?_
    obtain ⟨o1, o2, o3, o4⟩ := hone
    obtain ⟨x1, rfl⟩ := List.length_eq_one_iff.1 o1
    obtain ⟨y1, rfl⟩ := List.length_eq_one_iff.1 o2
    obtain ⟨x2, rfl⟩ := List.length_eq_one_iff.1 o3
    obtain ⟨y2, rfl⟩ := List.length_eq_one_iff.1 o4
    have u1 : x1 = p.num.natAbs := by rw [← v1]; simp [val_cons, val_nil]
    have u2 : y1 = p.den := by rw [← v2]; simp [val_cons, val_nil]
    have u3 : x2 = q.num.natAbs := by rw [← v3]; simp [val_cons, val_nil]
    have u4 : y2 = q.den := by rw [← v4]; simp [val_cons, val_nil]
    have b1 : x1 < B := j1.1 _ (by simp)
    have b2 : y1 < B := j2.1 _ (by simp)
    have b3 : x2 < B := j3.1 _ (by simp)
    have b4 : y2 < B := j4.1 _ (by simp)
    have m1 : x1 * x2 ≤ 999999999 * 999999999 := Nat.mul_le_mul (by omega) (by omega)
    have m2 : y1 * y2 ≤ 999999999 * 999999999 := Nat.mul_le_mul (by omega) (by omega)
    have w1 : IntKind.u64.wrap (x1 : Int) = (x1 : Int) := wrap_u64 (by omega) (by omega)
    have w2 : IntKind.u64.wrap (y1 : Int) = (y1 : Int) := wrap_u64 (by omega) (by omega)
    have w3 : IntKind.u64.wrap (x2 : Int) = (x2 : Int) := wrap_u64 (by omega) (by omega)
    have w4 : IntKind.u64.wrap (y2 : Int) = (y2 : Int) := wrap_u64 (by omega) (by omega)
    have w5 : IntKind.u64.wrap ((x1 : Int) * (x2 : Int)) = ((x1 * x2 : Nat) : Int) := by rw [← Int.natCast_mul]; exact wrap_u64 (by omega) (by omega)
    have w6 : IntKind.u64.wrap ((y1 : Int) * (y2 : Int)) = ((y1 * y2 : Nat) : Int) := by rw [← Int.natCast_mul]; exact wrap_u64 (by omega) (by omega)
    have k1 := i1.same hSS
    have k2 := i2.same hSS
    have k3 := i3.same hSS
    have k4 := i4.same hSS
    have oo : ∀ {v : AV} {x : Nat}, LimbIs S v [x] → OldP (fun c => c = S2.nx) S4.nx (elemP v 0) := fun h => one_old h (fun b hb => by omega) (by omega)
    refine wpc_seq (wpc_drd1 (fun c => c = S2.nx) ?_)
    intro S5 hS5
    simp only [↓stU, stD, reduceEqDiff, ↓reduceIte, ↓stV, stW, Nat.reduceAdd, evQ_faddr, faddr_ptr, isLoad_faddr, ld3_1 f1, ld3_2 f1, ld3_1 f2, ld3_2 f2, lt1, lt2, ne1, ne2, not_false_eq_true, limb_self k1, limb_self k2, limb_self k3, limb_self k4, nat0, one_ia k1, one_ia k2, one_ia k3, one_ia k4, one_ld k1, one_ld k2, one_ld k3, one_ld k4, oo i1, oo i2, oo i3, oo i4, w1, w2, w3, w4, w5, w6]
    refine runD_call0 rfl ?_
    try simp only [↓stU, stD, reduceEqDiff, ↓reduceIte, ↓stV, stW, Nat.reduceAdd]
    refine wpf_mono (words_spec H (hL.same (hSS.trans hS5)) (Nat.mul_pos (by omega) (by omega)) (Nat.mul_pos (by omega) (by omega)) (by omega) (by omega)) ?_
    rintro v S6 ⟨hv, hS6⟩
    refine ⟨hS6, ?_⟩
    obtain ⟨c0, c1, c2, rfl, hb6, fin⟩ := go S6 (hS4.trans (hS5.trans hS6)) v _ hv
    refine runD_st0 (b := S2.nx) rfl (by simp only [↓stU, stD, reduceEqDiff, ↓reduceIte, ↓stV, stW, Nat.reduceAdd]) (by simp only [↓stU, stD, reduceEqDiff, ↓reduceIte, ↓stV, stW, Nat.reduceAdd, cells_agg]; rfl) hb6 rfl rfl rfl ?_
    intro S7 hS7 hn7 hb7
    try simp only [↓stU, stD, reduceEqDiff, ↓reduceIte, ↓stV, stW, Nat.reduceAdd]
    refine wpc_ret ?_
    simp only [↓stU, stD, reduceEqDiff, ↓reduceIte, ↓stV, stW, Nat.reduceAdd, results_cell, ld3 hb7]
    have e : p * q = mkRat (sg (s != t) (x1 * x2)) (y1 * y2) := by
      rw [sg_mul, ← Rat.mkRat_mul_mkRat, u1, u2, u3, u4, ep, eq, Rat.mkRat_self, Rat.mkRat_self]
    rw [e]
    exact fin S7 hS7 hb7
  refine wpc_non (by simp only [↓stU, stD, reduceEqDiff, ↓reduceIte, ↓stV, stW, Nat.reduceAdd, decide_eq_false hone]) (wpc_skip ?_)
  try simp only [↓stU, stD, reduceEqDiff, ↓reduceIte, ↓stV, stW, Nat.reduceAdd]
  obtain ⟨g, hg⟩ : ∃ g, g = Nat.gcd p.num.natAbs q.den := ⟨_, rfl⟩
  obtain ⟨h, hh⟩ : ∃ h, h = Nat.gcd q.num.natAbs p.den := ⟨_, rfl⟩
  have hgp : 0 < g := by rw [hg]; exact Nat.gcd_pos_of_pos_left _ hpn
  have hhp : 0 < h := by rw [hh]; exact Nat.gcd_pos_of_pos_left _ hqn
  obtain ⟨lo1, lo2, lo3⟩ := times_low (n1 := p.num.natAbs) (n2 := q.num.natAbs) (d1 := p.den) (d2 := q.den) p.reduced q.reduced p.den_nz q.den_nz hg hh s t
  rw [ep, eq, Rat.mkRat_self, Rat.mkRat_self] at lo1
  refine wpc_seq (wpc_drd1 (fun _ => False) ?_)
  intro S5 hS5
  simp only [↓stU, stD, reduceEqDiff, ↓reduceIte, ↓stV, stW, Nat.reduceAdd, evQ_faddr, faddr_ptr, isLoad_faddr, ld3_1 f1, ld3_2 f2, lt1, lt2, not_false_eq_true, nat_self ha1, nat_self hb2]
  refine runD_call0 rfl ?_
  try simp only [↓stU, stD, reduceEqDiff, ↓reduceIte, ↓stV, stW, Nat.reduceAdd]
  have hSS5 := hSS.trans hS5
  refine wpf_mono (gcd_spec H (hL.same hSS5) (ha1.same hSS5) (hb2.same hSS5) hp.1.fits hq.2.fits) ?_
  rintro gv S6 ⟨hgv, hS6⟩
  rw [← hg] at hgv
  refine ⟨hS6, ?_⟩
  simp only [↓stU, stD, reduceEqDiff, ↓reduceIte, ↓stV, stW, Nat.reduceAdd, evQ_faddr, faddr_ptr, isLoad_faddr, ld3_2 f1, ld3_1 f2, lt1, lt2, not_false_eq_true, nat_self ha2, nat_self hb1]
  refine runD_call0 rfl ?_
  try simp only [↓stU, stD, reduceEqDiff, ↓reduceIte, ↓stV, stW, Nat.reduceAdd]
  have hSS6 := hSS5.trans hS6
  refine wpf_mono (gcd_spec H (hL.same hSS6) (hb1.same hSS6) (ha2.same hSS6) hq.1.fits hp.2.fits) ?_
  rintro hv S7 ⟨hhv, hS7⟩
  rw [← hh] at hhv
  refine ⟨hS7, ?_⟩
  try simp only [↓stU, stD, reduceEqDiff, ↓reduceIte, ↓stV, stW, Nat.reduceAdd]
  have hSS7 := hSS6.trans hS7
  have h47 := hS5.trans (hS6.trans hS7)
  have r1 : S7.h.get S.nx = some (.cells [.bool s, nv, dv] false 0) := by rw [h47.2 _ lt1]; exact f1
  have r2 : S7.h.get S1.nx = some (.cells [.bool t, mv, ev] false 0) := by rw [h47.2 _ lt2]; exact f2
  have lt1' : S.nx < S7.nx := Nat.lt_of_lt_of_le lt1 h47.1
  have lt2' : S1.nx < S7.nx := Nat.lt_of_lt_of_le lt2 h47.1
  refine wpc_seq (wpc_drd1 (fun _ => False) ?_)
  intro S8 hS8
  simp only [↓stU, stD, reduceEqDiff, ↓reduceIte, ↓stV, stW, Nat.reduceAdd, evQ_faddr, faddr_ptr, isLoad_faddr, ld3_1 r1, lt1', lt2', not_false_eq_true, nat_self ha1]
  refine runD_call0 rfl ?_
  try simp only [↓stU, stD, reduceEqDiff, ↓reduceIte, ↓stV, stW, Nat.reduceAdd]
  have hSS8 := hSS7.trans hS8
  refine wpf_mono (over_spec H (ha1.same hSS8) (hgv.same (hS7.trans hS8)) hp.1.fits hgp) ?_
  rintro u1 S9 ⟨hu1, hS9⟩
  refine ⟨hS9, ?_⟩
  simp only [↓stU, stD, reduceEqDiff, ↓reduceIte, ↓stV, stW, Nat.reduceAdd, evQ_faddr, faddr_ptr, isLoad_faddr, ld3_1 r2, lt1', lt2', not_false_eq_true, nat_self hb1]
  refine runD_call0 rfl ?_
  try simp only [↓stU, stD, reduceEqDiff, ↓reduceIte, ↓stV, stW, Nat.reduceAdd]
  have hSS9 := hSS8.trans hS9
  refine wpf_mono (over_spec H (hb1.same hSS9) (hhv.same (hS8.trans hS9)) hq.1.fits hhp) ?_
  rintro u2 S10 ⟨hu2, hS10⟩
  refine ⟨hS10, ?_⟩
  try simp only [↓stU, stD, reduceEqDiff, ↓reduceIte, ↓stV, stW, Nat.reduceAdd]
  refine runD_call0 rfl ?_
  try simp only [↓stU, stD, reduceEqDiff, ↓reduceIte, ↓stV, stW, Nat.reduceAdd]
  refine wpf_mono (mul_spec H.f103 H.f64 (hu1.same hS10) hu2 hp.1.div.fits hq.1.div.fits) ?_
  rintro u3 S11 ⟨hu3, hS11⟩
  refine ⟨hS11, ?_⟩
  try simp only [↓stU, stD, reduceEqDiff, ↓reduceIte, ↓stV, stW, Nat.reduceAdd]
  have h711 := hS8.trans (hS9.trans (hS10.trans hS11))
  have hSS11 := hSS7.trans h711
  have z1 : S11.h.get S.nx = some (.cells [.bool s, nv, dv] false 0) := by rw [h711.2 _ lt1']; exact r1
  have z2 : S11.h.get S1.nx = some (.cells [.bool t, mv, ev] false 0) := by rw [h711.2 _ lt2']; exact r2
  have lt1'' : S.nx < S11.nx := Nat.lt_of_lt_of_le lt1' h711.1
  have lt2'' : S1.nx < S11.nx := Nat.lt_of_lt_of_le lt2' h711.1
  refine wpc_seq (wpc_drd1 (fun x => x = S2.nx) ?_)
  intro S12 hS12
  simp only [↓stU, stD, reduceEqDiff, ↓reduceIte, ↓stV, stW, Nat.reduceAdd, evQ_faddr, faddr_ptr, isLoad_faddr, ld3_2 z1, lt1'', lt2'', ne1, ne2, not_false_eq_true, nat_self ha2]
  refine runD_call0 rfl ?_
  try simp only [↓stU, stD, reduceEqDiff, ↓reduceIte, ↓stV, stW, Nat.reduceAdd]
  have hSS12 := hSS11.trans hS12
  refine wpf_mono (over_spec H (ha2.same hSS12) (hhv.same (h711.trans hS12)) hp.2.fits hhp) ?_
  rintro e1 S13 ⟨he1, hS13⟩
  refine ⟨hS13, ?_⟩
  simp only [↓stU, stD, reduceEqDiff, ↓reduceIte, ↓stV, stW, Nat.reduceAdd, evQ_faddr, faddr_ptr, isLoad_faddr, ld3_2 z2, lt1'', lt2'', ne1, ne2, not_false_eq_true, nat_self hb2]
  refine runD_call0 rfl ?_
  try simp only [↓stU, stD, reduceEqDiff, ↓reduceIte, ↓stV, stW, Nat.reduceAdd]
  have hSS13 := hSS12.trans hS13
  refine wpf_mono (over_spec H (hb2.same hSS13) (hgv.same (hS7.trans (h711.trans (hS12.trans hS13)))) hq.2.fits hgp) ?_
  rintro e2 S14 ⟨he2, hS14⟩
  refine ⟨hS14, ?_⟩
  try simp only [↓stU, stD, reduceEqDiff, ↓reduceIte, ↓stV, stW, Nat.reduceAdd]
  refine runD_call0 rfl ?_
  try simp only [↓stU, stD, reduceEqDiff, ↓reduceIte, ↓stV, stW, Nat.reduceAdd]
  refine wpf_mono (mul_spec H.f103 H.f64 (he1.same hS14) he2 hp.2.div.fits hq.2.div.fits) ?_
  rintro e3 S15 ⟨he3, hS15⟩
  refine ⟨hS15, ?_⟩
  simp only [↓stU, stD, reduceEqDiff, ↓reduceIte, ↓stV, stW, Nat.reduceAdd, isLoad_build, evQ_b3, cells_bool, nat_cells hu3, nat_cells he3]
  have h1115 := hS12.trans (hS13.trans (hS14.trans hS15))
  have hv : RatIs S15 (.agg [.bool (s != t), u3, e3]) (p * q) := by
    rw [← lo1]
    refine ratIs_mk (hu3.same h1115) he3 lo3 lo2 (fun h0 => ?_)
    have d1 : g ∣ p.num.natAbs := by rw [hg]; exact Nat.gcd_dvd_left ..
    have d2 : h ∣ q.num.natAbs := by rw [hh]; exact Nat.gcd_dvd_left ..
    have a1 := Nat.div_pos (Nat.le_of_dvd hpn d1) hgp
    have a2 := Nat.div_pos (Nat.le_of_dvd hqn d2) hhp
    have := Nat.mul_pos a1 a2
    omega
  obtain ⟨c0, c1, c2, he, hb15, fin⟩ := go S15 (hS4.trans (h47.trans (h711.trans h1115))) _ _ hv
  cases he
  refine runD_st0 (b := S2.nx) rfl (by simp only [↓stU, stD, reduceEqDiff, ↓reduceIte, ↓stV, stW, Nat.reduceAdd]) (by simp only [↓stU, stD, reduceEqDiff, ↓reduceIte, ↓stV, stW, Nat.reduceAdd, cells_agg]; rfl) hb15 rfl rfl rfl ?_
  intro S18 hS18 hn18 hb18
  try simp only [↓stU, stD, reduceEqDiff, ↓reduceIte, ↓stV, stW, Nat.reduceAdd]
  refine wpc_ret ?_
  simp only [↓stU, stD, reduceEqDiff, ↓reduceIte, ↓stV, stW, Nat.reduceAdd, results_cell, ld3 hb18]
  exact fin S18 hS18 hb18

/-- both parts have at most 1024 limbs -/
def InBound (q : Rat) : Prop := q.num.natAbs < B ^ 1024 ∧ q.den < B ^ 1024
theorem norm_len_iff {l : List Nat} (h : Norm l) (K : Nat) : l.length ≤ K ↔ val l < B ^ K := by
  constructor
  · intro hl
    exact Nat.lt_of_lt_of_le (val_lt h.1) (Nat.pow_le_pow_right B_pos hl)
  · exact len_le h

theorem fits_spec {S : St} {v : AV} {q : Rat} (H : Has fns) (h : RatIs S v q) : wpf fns (.fn 97 [] []) [v] S fun r S' => ∃ b, r = .bool b ∧ (b = true ↔ InBound q) ∧ Same S S' := by
  obtain ⟨nv, dv, rfl, ⟨l1, i1, j1, v1⟩, ⟨l2, i2, j2, v2⟩⟩ := h
  have e1 := norm_len_iff j1 1024
  have e2 := norm_len_iff j2 1024
  rw [v1] at e1
  rw [v2] at e2
  refine wpf_fn H.f97 (by simp) ?_
  simp only [↓stU, stD, reduceEqDiff, ↓reduceIte]
  refine wsr ?_
  refine wpo_box (by simp only [↓stU, stD, reduceEqDiff, ↓reduceIte, cells_agg]; rfl) ?_
  intro S1 hS1 hn1 hb1
  simp only [↓stU, stD, reduceEqDiff, ↓reduceIte]
  refine wsr ?_
  by_cases h1 : l1.length ≤ 1024
  · have d1 : decide (((l1.length : Nat) : Int) ≤ 1024) = true := decide_eq_true (by omega)
    by_cases h2 : l2.length ≤ 1024
    · have d2 : decide (((l2.length : Nat) : Int) ≤ 1024) = true := decide_eq_true (by omega)
      simp only [↓stU, stD, reduceEqDiff, ↓reduceIte, ↓stV, stW, Nat.reduceAdd, evQ_faddr, faddr_ptr, ld3_1 hb1, ld3_2 hb1, i1.len, i2.len, d1, d2]
      refine wpc_ret ?_
      simp only [↓stU, stD, reduceEqDiff, ↓reduceIte, ↓stV, stW, Nat.reduceAdd]
      exact ⟨true, rfl, ⟨fun _ => ⟨e1.1 h1, e2.1 h2⟩, fun _ => rfl⟩, hS1⟩
    · have d2 : decide (((l2.length : Nat) : Int) ≤ 1024) = false := decide_eq_false (by omega)
      simp only [↓stU, stD, reduceEqDiff, ↓reduceIte, ↓stV, stW, Nat.reduceAdd, evQ_faddr, faddr_ptr, ld3_1 hb1, ld3_2 hb1, i1.len, i2.len, d1, d2]
      refine wpc_ret ?_
      simp only [↓stU, stD, reduceEqDiff, ↓reduceIte, ↓stV, stW, Nat.reduceAdd]
      exact ⟨false, rfl, ⟨fun h => (by cases h), fun h => absurd (e2.2 h.2) h2⟩, hS1⟩
  · have d1 : decide (((l1.length : Nat) : Int) ≤ 1024) = false := decide_eq_false (by omega)
    simp only [↓stU, stD, reduceEqDiff, ↓reduceIte, ↓stV, stW, Nat.reduceAdd, evQ_faddr, faddr_ptr, ld3_1 hb1, i1.len, d1]
    refine wpc_ret ?_
    simp only [↓stU, stD, reduceEqDiff, ↓reduceIte, ↓stV, stW, Nat.reduceAdd]
    exact ⟨false, rfl, ⟨fun h => (by cases h), fun h => absurd (e1.2 h.1) h1⟩, hS1⟩
end Go.Ev.Gl

namespace Go.Ev.Gl
variable {fns : T AFn}

/-! ## Which numbers are valid -/
open Classical in
noncomputable def chk (l : List Nat) : Int := if 1024 < l.length then 4 else if Norm l then 0 else 3
noncomputable def partsE (l m : List Nat) : Int := if chk l ≠ 0 then chk l else if chk m ≠ 0 then chk m else if m = [] then 6 else 0
noncomputable def rchk (s : Bool) (l m : List Nat) : Int := if partsE l m ≠ 0 then partsE l m else if (l = [] ∧ s = true) ∨ Nat.gcd (val l) (val m) ≠ 1 then 3 else 0

theorem chk_zero {l : List Nat} : chk l = 0 ↔ l.length ≤ 1024 ∧ Norm l := by
  unfold chk
  by_cases h1 : 1024 < l.length
  · rw [if_pos h1]; constructor
    · intro h; cases h
    · intro h; omega
  · rw [if_neg h1]
    by_cases h2 : Norm l
    · rw [if_pos h2]; exact ⟨fun _ => ⟨by omega, h2⟩, fun _ => rfl⟩
    · rw [if_neg h2]; exact ⟨fun h => (by cases h), fun h => absurd h.2 h2⟩
theorem partsE_zero {l m : List Nat} : partsE l m = 0 ↔ (l.length ≤ 1024 ∧ Norm l) ∧ (m.length ≤ 1024 ∧ Norm m) ∧ m ≠ [] := by
  unfold partsE
  by_cases h1 : chk l = 0
  · rw [if_neg (by simp [h1])]
    by_cases h2 : chk m = 0
    · rw [if_neg (by simp [h2])]
      rw [chk_zero] at h1 h2
      by_cases h3 : m = []
      · rw [if_pos h3]; exact ⟨fun h => (by cases h), fun h => absurd h3 h.2.2⟩
      · rw [if_neg h3]; exact ⟨fun _ => ⟨h1, h2, h3⟩, fun _ => rfl⟩
    · rw [if_pos h2]; exact ⟨fun h => absurd h h2, fun h => absurd (chk_zero.2 h.2.1) h2⟩
  · rw [if_pos h1]; exact ⟨fun h => absurd h h1, fun h => absurd (chk_zero.2 h.1) h1⟩
theorem rchk_zero {s : Bool} {l m : List Nat} : rchk s l m = 0 ↔ partsE l m = 0 ∧ ¬ (l = [] ∧ s = true) ∧ Nat.gcd (val l) (val m) = 1 := by
  unfold rchk
  by_cases h1 : partsE l m = 0
  · rw [if_neg (by simp [h1])]
    by_cases h2 : (l = [] ∧ s = true) ∨ Nat.gcd (val l) (val m) ≠ 1
    · rw [if_pos h2]
      refine ⟨fun h => (by cases h), fun h => ?_⟩
      rcases h2 with h2 | h2
      · exact absurd h2 h.2.1
      · exact absurd h.2.2 h2
    · rw [if_neg h2]
      refine ⟨fun _ => ⟨h1, fun h => h2 (.inl h), ?_⟩, fun _ => rfl⟩
      apply Classical.byContradiction
      intro h; exact h2 (.inr h)
  · rw [if_pos h1]; exact ⟨fun h => absurd h h1, fun h => absurd h.1 h1⟩

def ChkI (S : St) (v : AV) (l : List Nat) (k : Nat) (A : Act') (S' : St) : Prop :=
  A.inr = false ∧ S' = S ∧ ∃ i : Nat, i + k = l.length ∧ tmpV 0 A.F = v ∧ tmpV 8 A.F = v ∧ tmpV 9 A.F = .int .i64 ((l.length : Nat) : Int) ∧ tmpV 10 A.F = .int .i64 (i : Int) ∧ Small (l.take i)

theorem natCheck_spec {S : St} {v : AV} {l : List Nat} (H : Has fns) (h : LimbIs S v l) : wpf fns (.fn 113 [] []) [v] S fun r S' => r = .int .i64 (chk l) ∧ S' = S := by
  have hB : B = 1000000000 := rfl
  refine wpf_fn H.f113 (by simp) ?_
  simp only [↓stU, stD, reduceEqDiff, ↓reduceIte]
  refine wsr ?_
  simp only [↓stU, stD, reduceEqDiff, ↓reduceIte]
  refine wss ?_
  simp only [↓stU, stD, reduceEqDiff, ↓reduceIte, h.len]
  by_cases h1 : 1024 < l.length
  · refine wpc_yes (by simp only [↓stU, stD, reduceEqDiff, ↓reduceIte, decide_eq_true (show (1024 : Int) < ((l.length : Nat) : Int) by omega)]) ?_
    refine wsr ?_
    simp only [↓stU, stD, reduceEqDiff, ↓reduceIte]
    refine wpc_ret ?_
    simp only [↓stU, stD, reduceEqDiff, ↓reduceIte, chk, if_pos h1]
  refine wpc_non (by simp only [↓stU, stD, reduceEqDiff, ↓reduceIte, decide_eq_false (show ¬ (1024 : Int) < ((l.length : Nat) : Int) by omega)]) (wpc_skip ?_)
  simp only [↓stU, stD, reduceEqDiff, ↓reduceIte]
  have bad : ¬ Norm l → chk l = 3 := fun hn => by unfold chk; rw [if_neg h1, if_neg hn]
  refine wss ?_
  simp only [↓stU, stD, reduceEqDiff, ↓reduceIte, h.len]
  refine wpc_mono (Q := fun o A' S' => S' = S ∧ ((o = .normal ∧ A'.inr = false ∧ tmpV 0 A'.F = v ∧ Small l) ∨ (o = .ret ∧ tmpV 2 A'.F = .int .i64 3 ∧ ¬ Norm l))) ?_ ?_
  · refine wpc_block (wpc_loop (ChkI S v l) ?_ l.length _ _ ⟨rfl, rfl, 0, by omega, by simp only [↓stU, stD, reduceEqDiff, ↓reduceIte], by simp only [↓stU, stD, reduceEqDiff, ↓reduceIte], by simp only [↓stU, stD, reduceEqDiff, ↓reduceIte], by simp only [↓stU, stD, reduceEqDiff, ↓reduceIte], by simp [Small]⟩)
    rintro k ⟨F, inr⟩ S' ⟨q0, hS', i, hik, p0, p8, p9, p10, hsm⟩
    simp only at q0 p0 p8 p9 p10
    subst q0
    rw [hS']
    refine wsr ?_
    by_cases hi : i < l.length
    · simp only [↓stU, stD, reduceEqDiff, ↓reduceIte, p9, p10, decide_eq_true (show (i : Int) < ((l.length : Nat) : Int) by omega)]
      refine wpc_seq (wpc_yes (by simp only [↓stU, stD, reduceEqDiff, ↓reduceIte]) (wpc_skip ?_))
      simp only [↓stU, stD, reduceEqDiff, ↓reduceIte]
      have hld := h.ld hi
      rw [List.getD_eq_getElem?_getD] at hld
      have htk : l.take (i + 1) = l.take i ++ [l[i]?.getD 0] := by rw [List.take_add_one, List.getElem?_eq_getElem hi]; rfl
      have hmem : l[i]?.getD 0 ∈ l := by rw [List.getElem?_eq_getElem hi]; exact List.getElem_mem hi
      generalize l[i]?.getD 0 = x at *
      refine wpc_seq (wpc_block (wpc_seq (wpc_reg ?_)))
      simp only [↓stU, stD, reduceEqDiff, ↓reduceIte, p8, p10, h.iaddr hi, hld]
      refine wsr ?_
      simp only [↓stU, stD, reduceEqDiff, ↓reduceIte]
      by_cases hx : 1000000000 ≤ x
      · refine wpc_yes (by simp only [↓stU, stD, reduceEqDiff, ↓reduceIte, decide_eq_true (show (1000000000 : Int) ≤ (x : Int) by omega)]) ?_
        refine wsr ?_
        simp only [↓stU, stD, reduceEqDiff, ↓reduceIte]
        refine wpc_ret ?_
        simp only [↓stU, stD, reduceEqDiff, ↓reduceIte]
        exact .inr fun hn => by have := hn.1 x hmem; omega
      · refine wpc_non (by simp only [↓stU, stD, reduceEqDiff, ↓reduceIte, decide_eq_false (show ¬ (1000000000 : Int) ≤ (x : Int) by omega)]) (wpc_skip ?_)
        simp only [↓stU, stD, reduceEqDiff, ↓reduceIte]
        refine wpc_reg ?_
        have w1 : IntKind.i64.wrap ((i : Int) + 1) = ((i + 1 : Nat) : Int) := by rw [wrap_i64 (by omega) (by omega)]; omega
        simp only [↓stU, stD, reduceEqDiff, ↓reduceIte, p10, w1]
        refine ⟨k - 1, by omega, rfl, rfl, i + 1, by omega, by simp only [↓stU, stD, reduceEqDiff, ↓reduceIte, p0], by simp only [↓stU, stD, reduceEqDiff, ↓reduceIte, p8], by simp only [↓stU, stD, reduceEqDiff, ↓reduceIte, p9], by simp only [↓stU, stD, reduceEqDiff, ↓reduceIte], ?_⟩
        rw [htk]
        exact Small.append.2 ⟨hsm, small_one (by omega)⟩
    · simp only [↓stU, stD, reduceEqDiff, ↓reduceIte, p9, p10, decide_eq_false (show ¬ (i : Int) < ((l.length : Nat) : Int) by omega)]
      refine wpc_seq (wpc_non (by simp only [↓stU, stD, reduceEqDiff, ↓reduceIte]) (wpc_exit ?_))
      simp only [↓stU, stD, reduceEqDiff, ↓reduceIte, p0]
      rw [List.take_of_length_le (by omega)] at hsm
      exact .inl hsm
  rintro o ⟨F, inr⟩ S' ⟨hS', ⟨rfl, q0, p0, hsm⟩ | ⟨rfl, p2, hbad⟩⟩
  · simp only at q0 p0
    subst q0
    rw [hS']
    try simp only [↓stU, stD, reduceEqDiff, ↓reduceIte]
    have hnorm : Norm l ↔ l.getLast? ≠ some 0 := ⟨fun hn => hn.2, fun hn => ⟨hsm, hn⟩⟩
    refine wpc_seq (wpc_seq (wpc_mono (Q := fun o A' S' => o = .normal ∧ S' = S ∧ ∃ b, tmpV 28 A'.F = .bool b ∧ (b = true ↔ ¬ Norm l)) ?_ ?_))
    · refine wpc_reg ?_
      by_cases h0 : l = []
      · subst h0
        simp only [↓stU, stD, reduceEqDiff, ↓reduceIte, p0, h.len]
        exact ⟨false, by simp [norm_nil]⟩
      · have hp := List.length_pos_iff.2 h0
        obtain ⟨j, hj⟩ : ∃ j, l.length = j + 1 := ⟨l.length - 1, by omega⟩
        have hld := h.ld (i := j) (by omega)
        rw [List.getD_eq_getElem?_getD] at hld
        have hlast : l.getLast? = some (l[j]?.getD 0) := by
          rw [List.getLast?_eq_getElem?, hj, Nat.add_sub_cancel, List.getElem?_eq_getElem (by omega)]; rfl
        have w1 : IntKind.i64.wrap (((l.length : Nat) : Int) - 1) = (j : Int) := by rw [wrap_i64 (by omega) (by omega)]; omega
        simp only [↓stU, stD, reduceEqDiff, ↓reduceIte, p0, h.len, decide_eq_true (show (0 : Int) < ((l.length : Nat) : Int) by omega), w1, h.iaddr (show j < l.length by omega), hld]
        refine ⟨decide (((l[j]?.getD 0 : Nat) : Int) = 0), rfl, ?_⟩
        rw [hnorm, hlast]
        simp
    rintro o ⟨F, inr⟩ S' ⟨rfl, hS', b, p28, hb⟩
    simp only at p28
    rw [hS']
    try simp only [↓stU, stD, reduceEqDiff, ↓reduceIte]
    cases b with
    | true =>
      refine wpc_yes (by simp only [↓stU, stD, reduceEqDiff, ↓reduceIte, p28]) ?_
      refine wsr ?_
      simp only [↓stU, stD, reduceEqDiff, ↓reduceIte]
      refine wpc_ret ?_
      simp only [↓stU, stD, reduceEqDiff, ↓reduceIte, bad (hb.1 rfl)]
    | false =>
      refine wpc_non (by simp only [↓stU, stD, reduceEqDiff, ↓reduceIte, p28]) (wpc_skip ?_)
      try simp only [↓stU, stD, reduceEqDiff, ↓reduceIte]
      refine wsr ?_
      simp only [↓stU, stD, reduceEqDiff, ↓reduceIte]
      refine wpc_ret ?_
      have hn : Norm l := Classical.byContradiction fun h => by have := hb.2 h; cases this
      simp only [↓stU, stD, reduceEqDiff, ↓reduceIte, chk_zero.2 ⟨by omega, hn⟩]
  · simp only at p2
    rw [hS']
    simp only [↓stU, stD, reduceEqDiff, ↓reduceIte, p2, bad hbad]

theorem parts_spec {S : St} {a b : AV} {l m : List Nat} (H : Has fns) (ha : LimbIs S a l) (hb : LimbIs S b m) : wpf fns (.fn 74 [] []) [a, b] S fun r S' => r = .int .i64 (partsE l m) ∧ S' = S := by
  refine wpf_fn H.f74 (by simp) ?_
  simp only [↓stU, stD, reduceEqDiff, ↓reduceIte]
  refine wsr ?_
  simp only [↓stU, stD, reduceEqDiff, ↓reduceIte]
  refine wss ?_
  simp only [↓stU, stD, reduceEqDiff, ↓reduceIte]
  refine wpo_call ?_
  simp only [↓stU, stD, reduceEqDiff, ↓reduceIte]
  refine wpf_mono (natCheck_spec H ha) ?_
  rintro _ T ⟨rfl, hT⟩
  rw [hT]
  try simp only [↓stU, stD, reduceEqDiff, ↓reduceIte]
  refine wsr ?_
  simp only [↓stU, stD, reduceEqDiff, ↓reduceIte]
  by_cases h1 : chk l = 0
  · refine wpc_non (by simp only [↓stU, stD, reduceEqDiff, ↓reduceIte, h1]; rfl) (wpc_skip ?_)
    simp only [↓stU, stD, reduceEqDiff, ↓reduceIte]
    refine wss ?_
    simp only [↓stU, stD, reduceEqDiff, ↓reduceIte]
    refine wpo_call ?_
    simp only [↓stU, stD, reduceEqDiff, ↓reduceIte]
    refine wpf_mono (natCheck_spec H hb) ?_
    rintro _ T ⟨rfl, hT⟩
    rw [hT]
    try simp only [↓stU, stD, reduceEqDiff, ↓reduceIte]
    refine wsr ?_
    simp only [↓stU, stD, reduceEqDiff, ↓reduceIte]
    by_cases h2 : chk m = 0
    · refine wpc_non (by simp only [↓stU, stD, reduceEqDiff, ↓reduceIte, h2]; rfl) (wpc_skip ?_)
      simp only [↓stU, stD, reduceEqDiff, ↓reduceIte]
      refine wss ?_
      simp only [↓stU, stD, reduceEqDiff, ↓reduceIte, hb.len]
      by_cases h3 : m = []
      · refine wpc_yes (by simp only [↓stU, stD, reduceEqDiff, ↓reduceIte, h3]; rfl) ?_
        refine wsr ?_
        simp only [↓stU, stD, reduceEqDiff, ↓reduceIte]
        refine wpc_ret ?_
        have e : partsE l m = 6 := by unfold partsE; rw [if_neg (by simp [h1]), if_neg (by simp [h2]), if_pos h3]
        simp only [↓stU, stD, reduceEqDiff, ↓reduceIte, e]
      · have := List.length_pos_iff.2 h3
        refine wpc_non (by simp only [↓stU, stD, reduceEqDiff, ↓reduceIte, decide_eq_false (show ¬ ((m.length : Nat) : Int) = 0 by omega)]) (wpc_skip ?_)
        simp only [↓stU, stD, reduceEqDiff, ↓reduceIte]
        refine wsr ?_
        simp only [↓stU, stD, reduceEqDiff, ↓reduceIte]
        refine wpc_ret ?_
        simp only [↓stU, stD, reduceEqDiff, ↓reduceIte, partsE, h1, h2, h3]
        simp
    · refine wpc_yes (by simp only [↓stU, stD, reduceEqDiff, ↓reduceIte, decide_eq_true (show chk m ≠ 0 from h2)]) ?_
      refine wsr ?_
      simp only [↓stU, stD, reduceEqDiff, ↓reduceIte]
      refine wpc_ret ?_
      simp only [↓stU, stD, reduceEqDiff, ↓reduceIte, partsE, h1]
      simp [h2]
  · refine wpc_yes (by simp only [↓stU, stD, reduceEqDiff, ↓reduceIte, decide_eq_true (show chk l ≠ 0 from h1)]) ?_
    refine wsr ?_
    simp only [↓stU, stD, reduceEqDiff, ↓reduceIte]
    refine wpc_ret ?_
    simp only [↓stU, stD, reduceEqDiff, ↓reduceIte, partsE]
    simp [h1]

/-- a struct of a sign and two lists -/
def RawIs (S : St) (v : AV) (s : Bool) (l m : List Nat) : Prop := ∃ nv dv, v = .agg [.bool s, nv, dv] ∧ LimbIs S nv l ∧ LimbIs S dv m
theorem RawIs.same {S S' : St} {v : AV} {s : Bool} {l m : List Nat} (h : RawIs S v s l m) (hs : Same S S') : RawIs S' v s l m := by
  obtain ⟨nv, dv, h1, h2, h3⟩ := h
  exact ⟨nv, dv, h1, h2.same hs, h3.same hs⟩

theorem check_spec {S : St} {v : AV} {s : Bool} {l m : List Nat} (H : Has fns) (hL : Laid S) (h : RawIs S v s l m) : wpf fns (.fn 31 [] []) [v] S fun r S' => r = .int .i64 (rchk s l m) ∧ Same S S' := by
  obtain ⟨nv, dv, rfl, h1, h2⟩ := h
  refine wpf_fn H.f31 (by simp) ?_
  simp only [↓stU, stD, reduceEqDiff, ↓reduceIte]
  refine wsr ?_
  refine wpo_box (by simp only [↓stU, stD, reduceEqDiff, ↓reduceIte, cells_agg]; rfl) ?_
  intro S1 hS1 hn1 hb1
  simp only [↓stU, stD, reduceEqDiff, ↓reduceIte]
  refine wss ?_
  simp only [↓stU, stD, reduceEqDiff, ↓reduceIte, evQ_faddr, faddr_ptr, ld3_1 hb1, ld3_2 hb1]
  refine wpo_call ?_
  simp only [↓stU, stD, reduceEqDiff, ↓reduceIte]
  refine wpf_mono (parts_spec H (h1.same hS1) (h2.same hS1)) ?_
  rintro _ T ⟨rfl, hT⟩
  rw [hT]
  try simp only [↓stU, stD, reduceEqDiff, ↓reduceIte]
  refine wsr ?_
  simp only [↓stU, stD, reduceEqDiff, ↓reduceIte]
  by_cases hp : partsE l m = 0
  · refine wpc_non (by simp only [↓stU, stD, reduceEqDiff, ↓reduceIte, hp]; rfl) (wpc_skip ?_)
    simp only [↓stU, stD, reduceEqDiff, ↓reduceIte]
    obtain ⟨⟨q1, q2⟩, ⟨q3, q4⟩, q5⟩ := partsE_zero.1 hp
    have n1 : NatIs S nv (val l) := ⟨l, h1, q2, rfl⟩
    have n2 : NatIs S dv (val m) := ⟨m, h2, q4, rfl⟩
    have f1 : Fits (val l) := Fits.of (val_lt q2.1) (by omega)
    have f2 : Fits (val m) := Fits.of (val_lt q4.1) (by omega)
    have hr : rchk s l m = if (l = [] ∧ s = true) ∨ Nat.gcd (val l) (val m) ≠ 1 then 3 else 0 := by unfold rchk; rw [if_neg (by simp [hp])]
    refine wpc_seq (wpc_seq (wpc_mono (Q := fun o A' S' => o = .normal ∧ Same S S' ∧ ∃ b, tmpV 27 A'.F = .bool b ∧ (b = true ↔ (l = [] ∧ s = true) ∨ Nat.gcd (val l) (val m) ≠ 1)) ?_ ?_))
    · refine wpc_reg ?_
      have cop : ∀ (F : Fr), tmpV 20 F = .bool false → tmpV 22 F = nv → tmpV 24 F = dv → ¬ (l = [] ∧ s = true) → wpo fns [⟨(some 25),(.x (.call (.c (.fn 75 [] [])) [(.t 22),(.t 24)])),none,0⟩, ⟨(some 26),(.q (.un .not (.t 25))),(some (20,false)),0⟩, ⟨(some 27),(.q (.pick (.t 20) (.c (.bool true)) (.t 26))),none,0⟩] F S1 (fun F' S' => Same S S' ∧ ∃ b, tmpV 27 F' = .bool b ∧ (b = true ↔ (l = [] ∧ s = true) ∨ Nat.gcd (val l) (val m) ≠ 1)) := by
        intro F p20 p22 p24 hns
        refine wpo_call ?_
        simp only [↓stU, stD, reduceEqDiff, ↓reduceIte, p22, p24]
        refine wpf_mono (coprime_spec H (hL.same hS1) (n1.same hS1) (n2.same hS1) f1 f2) ?_
        rintro _ S2 ⟨rfl, hS2⟩
        simp only [↓stU, stD, reduceEqDiff, ↓reduceIte, p20, un_not]
        refine ⟨hS1.trans hS2, _, rfl, ?_⟩
        simp [hns]
      by_cases h0 : l = []
      · subst h0
        cases s with
        | true =>
          simp only [↓stU, stD, reduceEqDiff, ↓reduceIte, evQ_faddr, faddr_ptr, ld3_0 hb1, ld3_1 hb1, h1.len, List.length_nil, Int.natCast_zero, decide_true]
          exact ⟨hS1, true, rfl, by simp⟩
        | false =>
          simp only [↓stU, stD, reduceEqDiff, ↓reduceIte, evQ_faddr, faddr_ptr, ld3_0 hb1, ld3_1 hb1, ld3_2 hb1, h1.len, List.length_nil, Int.natCast_zero, decide_true]
          refine wpo_mono (cop _ (by simp only [↓stU, stD, reduceEqDiff, ↓reduceIte]) (by simp only [↓stU, stD, reduceEqDiff, ↓reduceIte]) (by simp only [↓stU, stD, reduceEqDiff, ↓reduceIte]) (by simp)) ?_
          rintro F S' ⟨k1, b, k2, k3⟩
          exact ⟨k1, b, k2, by simpa using k3⟩
      · have := List.length_pos_iff.2 h0
        simp only [↓stU, stD, reduceEqDiff, ↓reduceIte, evQ_faddr, faddr_ptr, ld3_0 hb1, ld3_1 hb1, ld3_2 hb1, h1.len, decide_eq_false (show ¬ ((l.length : Nat) : Int) = 0 by omega)]
        exact cop _ (by simp only [↓stU, stD, reduceEqDiff, ↓reduceIte]) (by simp only [↓stU, stD, reduceEqDiff, ↓reduceIte]) (by simp only [↓stU, stD, reduceEqDiff, ↓reduceIte]) (by simp [h0])
    rintro o ⟨F, inr⟩ S' ⟨rfl, hS', b, p27, hb⟩
    simp only at p27
    try simp only [↓stU, stD, reduceEqDiff, ↓reduceIte]
    cases b with
    | true =>
      refine wpc_yes (by simp only [↓stU, stD, reduceEqDiff, ↓reduceIte, p27]) ?_
      refine wsr ?_
      simp only [↓stU, stD, reduceEqDiff, ↓reduceIte]
      refine wpc_ret ?_
      simp only [↓stU, stD, reduceEqDiff, ↓reduceIte, hr, if_pos (hb.1 rfl)]
      exact hS'
    | false =>
      refine wpc_non (by simp only [↓stU, stD, reduceEqDiff, ↓reduceIte, p27]) (wpc_skip ?_)
      try simp only [↓stU, stD, reduceEqDiff, ↓reduceIte]
      refine wsr ?_
      simp only [↓stU, stD, reduceEqDiff, ↓reduceIte]
      refine wpc_ret ?_
      simp only [↓stU, stD, reduceEqDiff, ↓reduceIte, hr, if_neg (fun h => by have := hb.2 h; cases this)]
      exact hS'
  · refine wpc_yes (by simp only [↓stU, stD, reduceEqDiff, ↓reduceIte, decide_eq_true (show partsE l m ≠ 0 from hp)]) ?_
    refine wsr ?_
    simp only [↓stU, stD, reduceEqDiff, ↓reduceIte]
    refine wpc_ret ?_
    have e : rchk s l m = partsE l m := by unfold rchk; rw [if_pos hp]
    simp only [↓stU, stD, reduceEqDiff, ↓reduceIte, e]
    exact hS1
end Go.Ev.Gl

namespace Go.Ev.Gl
variable {fns : T AFn}

/-! ## How long results are -/
def Bnd (k : Nat) (q : Rat) : Prop := q.num.natAbs < B ^ k ∧ q.den < B ^ k
theorem Bnd.mono {k j : Nat} {q : Rat} (h : Bnd k q) (hk : k ≤ j) : Bnd j q := ⟨Nat.lt_of_lt_of_le h.1 (Nat.pow_le_pow_right B_pos hk), Nat.lt_of_lt_of_le h.2 (Nat.pow_le_pow_right B_pos hk)⟩
theorem Bnd.half {k : Nat} {q : Rat} (h : Bnd k q) (hk : k ≤ 20000) : HalfR q := by unfold HalfR Half; exact Bnd.mono (j := 20000) h hk
theorem mkRat_le {n : Int} {d : Nat} (hd : d ≠ 0) : (mkRat n d).num.natAbs ≤ n.natAbs ∧ (mkRat n d).den ≤ d := by
  have hg : 0 < Nat.gcd n.natAbs d := Nat.gcd_pos_of_pos_right _ (by omega)
  rw [← Rat.normalize_eq_mkRat hd, Rat.normalize_eq]
  refine ⟨?_, Nat.div_le_self ..⟩
  simp only
  rw [Int.natAbs_ediv_of_dvd (Int.ofNat_dvd_left.2 (Nat.gcd_dvd_left ..)), Int.natAbs_natCast]
  exact Nat.div_le_self ..
theorem Bnd.mul {i j : Nat} {p q : Rat} (hp : Bnd i p) (hq : Bnd j q) : Bnd (i + j) (p * q) := by
  rw [Rat.mul_def']
  obtain ⟨h1, h2⟩ := mkRat_le (n := p.num * q.num) (Nat.mul_ne_zero p.den_nz q.den_nz)
  rw [Int.natAbs_mul] at h1
  exact ⟨Nat.lt_of_le_of_lt h1 (mul_lt_pow hp.1 hq.1), Nat.lt_of_le_of_lt h2 (mul_lt_pow hp.2 hq.2)⟩
theorem Bnd.add {i j : Nat} {p q : Rat} (hp : Bnd i p) (hq : Bnd j q) : Bnd (i + j + 1) (p + q) := by
  rw [Rat.add_def']
  obtain ⟨h1, h2⟩ := mkRat_le (n := p.num * q.den + q.num * p.den) (Nat.mul_ne_zero p.den_nz q.den_nz)
  have h3 := Int.natAbs_add_le (p.num * q.den) (q.num * p.den)
  rw [Int.natAbs_mul, Int.natAbs_mul, Int.natAbs_natCast, Int.natAbs_natCast] at h3
  refine ⟨Nat.lt_of_le_of_lt (Nat.le_trans h1 h3) (add_lt_pow (mul_lt_pow hp.1 hq.2) (by rw [Nat.add_comm]; exact mul_lt_pow hq.1 hp.2)), Nat.lt_of_le_of_lt h2 (Nat.lt_of_lt_of_le (mul_lt_pow hp.2 hq.2) (Nat.pow_le_pow_right B_pos (by omega)))⟩
theorem Bnd.neg {i : Nat} {p : Rat} (hp : Bnd i p) : Bnd i (-p) := by
  unfold Bnd; rw [Rat.neg_num, Rat.neg_den, Int.natAbs_neg]; exact hp
theorem bnd_zero (k : Nat) (hk : 0 < k) : Bnd k 0 := ⟨pow_B_pos k, Nat.one_lt_pow (by omega) (by decide)⟩

/-! ## A block that is laid late -/
section
variable {W : Nat → Prop} {h0 : T AB} {base : Nat} {d : Option Nat} {m i : Nat} {l : List AO} {F : Fr} {S : St} {last : Option Nat} {Q : Fr → St → List Pend → Prop}
end

/-! ## Structs of two numbers -/
def zero6 : List AV := [.bool false, .nilsl, .nilsl, .bool false, .nilsl, .nilsl]
noncomputable def join6 (x y : AV) : Option AV := osel (fillP zero6 [(0, 3, x), (3, 3, y)]) fun cs => some (.agg cs)
theorem evQ_b6 (x y : Opd) (F : Fr) (h : T AB) : evQ (.build [.bool false, .nilsl, .nilsl, .bool false, .nilsl, .nilsl] [(0, 3, x), (3, 3, y)]) F h = join6 (x.val F) (y.val F) := rfl
theorem join6_eq (a b c d e f : AV) : join6 (.agg [a, b, c]) (.agg [d, e, f]) = some (.agg [a, b, c, d, e, f]) := rfl
noncomputable def bs1 (x : AV) (id : Nat) : Option (AV × AB) := osel (fillP (repeatL zero6 1) [(0 * 6, 6, x)]) fun cs => some (.sl id 0 1 1 false, .cells cs false 0)
theorem evA_bs1 (t : Nat) (x : Opd) (F : Fr) (id : Nat) : evA (.bslice t 6 1 [.bool false, .nilsl, .nilsl, .bool false, .nilsl, .nilsl] [(0, x)]) F id = bs1 (x.val F) id := rfl
theorem bs1_eq (a b c d e f : AV) (id : Nat) : bs1 (.agg [a, b, c, d, e, f]) id = some (.sl id 0 1 1 false, .cells [a, b, c, d, e, f] false 0) := rfl
theorem noInt_rat {S : St} {x y z : AV} {q : Rat} (h : RatIs S (.agg [x, y, z]) q) : noInt [x, y, z] = true := by
  obtain ⟨nv, dv, he, h1, h2⟩ := h
  cases he
  obtain ⟨l, k1, _⟩ := h1
  obtain ⟨m, k2, _⟩ := h2
  have e1 : ∀ {S : St} {v : AV} {l : List Nat}, LimbIs S v l → ∀ r, noInt (v :: r) = noInt r := fun h r => by
    rcases h with ⟨_, h | h⟩ | ⟨_, _, _, _, _, h, _⟩ <;> subst h <;> rfl
  show noInt (y :: [z]) = true
  rw [e1 k1, e1 k2]
  rfl

/-! ## The product of a pair -/
theorem multiply_spec {S : St} {a b c d e f : AV} {p q : Rat} (H : Has fns) (hL : Laid S) (hp : RatIs S (.agg [a, b, c]) p) (hq : RatIs S (.agg [d, e, f]) q) (fp : HalfR p) (fq : HalfR q) : wpf fns (.fn 104 [] []) [.agg [a, b, c, d, e, f]] S fun r S' => RatIs S' r (p * q) ∧ Same S S' := by
  obtain ⟨nv, dv, he, n1, n2⟩ := id hq
  cases he
  obtain ⟨l1, i1, j1, v1⟩ := id n1
  obtain ⟨l2, i2, j2, v2⟩ := id n2
  refine wpf_fn H.f104 (by simp) ?_
  simp only [↓stU, stD, reduceEqDiff, ↓reduceIte]
  refine wsr ?_
  refine wpo_box (by simp only [↓stU, stD, reduceEqDiff, ↓reduceIte, cells_agg]; rfl) ?_
  intro S1 hS1 hn1 hb1
  refine wpo_alloc ?_
  intro S2 hS2 hn2 hb2
  simp only [↓stU, stD, reduceEqDiff, ↓reduceIte]
  have hS := hS1.trans hS2
  have hb1' : S2.h.get S.nx = some (.cells [a, b, c, .bool (decide (q.num < 0)), e, f] false 0) := by rw [hS2.2 _ (by omega)]; exact hb1
  have ld0 : qLdV (.ptr S.nx (0 + 0)) true 3 S2.h = some (.agg [a, b, c]) := by
    simp only [qLdV, loadV, bsel_true, loadN, cellsAt, hb1', osel_some, cellsOfB]; rfl
  have ld3' : qLdV (.ptr S.nx (0 + 3)) true 3 S2.h = some (.agg [.bool (decide (q.num < 0)), e, f]) := by
    simp only [qLdV, loadV, bsel_true, loadN, cellsAt, hb1', osel_some, cellsOfB]; rfl
  have l0 : qLdV (.ptr S.nx (0 + 3 + 0)) false 1 S2.h = some (.bool (decide (q.num < 0))) := by
    simp only [qLdV, loadV, bsel_false, load1, cellsAt, hb1', osel_some, cellsOfB, nth_eq]; rfl
  have l1' : qLdV (.ptr S.nx (0 + 3 + 1)) false 1 S2.h = some e := by
    simp only [qLdV, loadV, bsel_false, load1, cellsAt, hb1', osel_some, cellsOfB, nth_eq]; rfl
  have l2' : qLdV (.ptr S.nx (0 + 3 + 2)) false 1 S2.h = some f := by
    simp only [qLdV, loadV, bsel_false, load1, cellsAt, hb1', osel_some, cellsOfB, nth_eq]; rfl
  refine wpc_seq (wpc_seq (wpc_mono (Q := fun o A' S' => o = .normal ∧ S' = S2 ∧ A'.inr = false ∧ tmpV 1 A'.F = .ptr S.nx 0 ∧ tmpV 2 A'.F = .ptr S1.nx 0 ∧ ∃ bb, tmpV 18 A'.F = .bool bb ∧ (bb = true → q = 1)) ?_ ?_))
  · refine wpc_reg ?_
    simp only [↓stU, stD, reduceEqDiff, ↓reduceIte, evQ_faddr, faddr_ptr, l1']
    refine wpo_call ?_
    simp only [↓stU, stD, reduceEqDiff, ↓reduceIte]
    refine wpf_mono (isOne H.f91 (i1.same hS)) ?_
    rintro _ T ⟨rfl, hT⟩
    rw [hT]
    by_cases e1 : l1 = [1]
    · simp only [↓stU, stD, reduceEqDiff, ↓reduceIte, decide_eq_true e1, evQ_faddr, faddr_ptr, l2']
      refine wpo_call ?_
      simp only [↓stU, stD, reduceEqDiff, ↓reduceIte]
      refine wpf_mono (isOne H.f91 (i2.same hS)) ?_
      rintro _ T ⟨rfl, hT⟩
      rw [hT]
      by_cases e2 : l2 = [1]
      · simp only [↓stU, stD, reduceEqDiff, ↓reduceIte, decide_eq_true e2, evQ_faddr, faddr_ptr, l0, un_not]
        refine ⟨_, rfl, fun hb => ?_⟩
        have a1 : q.num.natAbs = 1 := by rw [← v1, e1, val_one]
        have a2 : q.den = 1 := by rw [← v2, e2, val_one]
        have a3 : ¬ q.num < 0 := by simpa using hb
        have a4 : q.num = 1 := by omega
        rw [← Rat.mkRat_self q, a4, a2]; rfl
      · simp only [↓stU, stD, reduceEqDiff, ↓reduceIte, decide_eq_false e2]
        exact ⟨false, rfl, fun h => by cases h⟩
    · simp only [↓stU, stD, reduceEqDiff, ↓reduceIte, decide_eq_false e1]
      exact ⟨false, rfl, fun h => by cases h⟩
  rintro o ⟨F, inr⟩ S' ⟨rfl, hS', q0, p1, p2, bb, p18, hbb⟩
  simp only at q0 p1 p2 p18
  subst q0
  rw [hS']
  try simp only [↓stU, stD, reduceEqDiff, ↓reduceIte]
  cases bb with
  | true =>
    refine wpc_yes (by simp only [↓stU, stD, reduceEqDiff, ↓reduceIte, p18]) ?_
    refine wsr ?_
    simp only [↓stU, stD, reduceEqDiff, ↓reduceIte, evQ_faddr, p1, faddr_ptr, ld0]
    refine wpo_st (b := S1.nx) (by simp only [↓stU, stD, reduceEqDiff, ↓reduceIte, p2]) (by simp only [↓stU, stD, reduceEqDiff, ↓reduceIte, cells_agg]; rfl) hb2 rfl rfl ?_
    intro S3 hS3 hn3 hb3
    simp only [↓stU, stD, reduceEqDiff, ↓reduceIte]
    refine wpc_ret ?_
    simp only [↓stU, stD, reduceEqDiff, ↓reduceIte, results_cell, p2, ld3 hb3]
    rw [hbb rfl, Rat.mul_one]
    exact ⟨(hp.same hS).st hb2 rfl hS3 hb3, hS3.same hS (by omega)⟩
  | false =>
    refine wpc_non (by simp only [↓stU, stD, reduceEqDiff, ↓reduceIte, p18]) (wpc_skip ?_)
    simp only [↓stU, stD, reduceEqDiff, ↓reduceIte]
    refine wsr ?_
    simp only [↓stU, stD, reduceEqDiff, ↓reduceIte, evQ_faddr, p1, faddr_ptr, ld0, ld3']
    refine wpo_call ?_
    simp only [↓stU, stD, reduceEqDiff, ↓reduceIte]
    refine wpf_mono (rtimes_spec H (hL.same hS) (hp.same hS) (hq.same hS) fp fq) ?_
    rintro v S3 ⟨hv, hS3⟩
    obtain ⟨c0, c1, c2, rfl⟩ := hv.cells
    have hb3 : S3.h.get S1.nx = some (.cells [.bool false, .nilsl, .nilsl] false 0) := by rw [hS3.2 _ (by omega)]; exact hb2
    refine wpo_st (b := S1.nx) (by simp only [↓stU, stD, reduceEqDiff, ↓reduceIte, p2]) (by simp only [↓stU, stD, reduceEqDiff, ↓reduceIte, cells_agg]; rfl) hb3 rfl rfl ?_
    intro S4 hS4 hn4 hb4
    simp only [↓stU, stD, reduceEqDiff, ↓reduceIte]
    refine wpc_ret ?_
    simp only [↓stU, stD, reduceEqDiff, ↓reduceIte, results_cell, p2, ld3 hb4]
    exact ⟨hv.st hb3 rfl hS4 hb4, hS4.same (hS.trans hS3) (by omega)⟩

theorem step_spec {S : St} {x y z a b c d e f : AV} {cf : Nat} {u p q : Rat} (H : Has fns) (hL : Laid S) (hcf : S.h.get cf = some (.cells [.fn 104 [] []] false 0)) (hcl : cf < S.nx) (hu : RatIs S (.agg [x, y, z]) u) (hp : RatIs S (.agg [a, b, c]) p) (hq : RatIs S (.agg [d, e, f]) q) (fu : HalfR u) (fp : HalfR p) (fq : HalfR q) (fpq : HalfR (p * q)) :
    wpf fns (.fn 107 [] [.ptr cf 0]) [.agg [x, y, z], .agg [a, b, c, d, e, f]] S fun r S' => RatIs S' r (u + p * q) ∧ Same S S' := by
  have self3 : ∀ {S : St} {x y z : AV} {q : Rat}, RatIs S (.agg [x, y, z]) q → sameV x x = true ∧ sameV y y = true ∧ sameV z z = true := fun h => by
    obtain ⟨nv, dv, he, h1, h2⟩ := h
    cases he
    exact ⟨same_bool _, nat_self h1, nat_self h2⟩
  obtain ⟨s1, s2, s3⟩ := self3 hu
  obtain ⟨s4, s5, s6⟩ := self3 hp
  obtain ⟨s7, s8, s9⟩ := self3 hq
  refine wpf_fn H.f107 (by simp) ?_
  simp only [↓stU, stD, reduceEqDiff, ↓reduceIte]
  refine wsr ?_
  refine wpo_box (by simp only [↓stU, stD, reduceEqDiff, ↓reduceIte, cells_agg]; rfl) ?_
  intro S1 hS1 hn1 hb1
  refine wpo_box (by simp only [↓stU, stD, reduceEqDiff, ↓reduceIte, cells_agg]; rfl) ?_
  intro S2 hS2 hn2 hb2
  refine wpo_alloc ?_
  intro S3 hS3 hn3 hb3
  simp only [↓stU, stD, reduceEqDiff, ↓reduceIte]
  have hS := hS1.trans (hS2.trans hS3)
  have g1 : S3.h.get S.nx = some (.cells [x, y, z] false 0) := by rw [hS3.2 _ (by omega), hS2.2 _ (by omega)]; exact hb1
  have g2 : S3.h.get S1.nx = some (.cells [a, b, c, d, e, f] false 0) := by rw [hS3.2 _ (by omega)]; exact hb2
  have g0 : S3.h.get cf = some (.cells [.fn 104 [] []] false 0) := by rw [hS.2 _ hcl]; exact hcf
  have ld6 : qLdV (.ptr S1.nx 0) true 6 S3.h = some (.agg [a, b, c, d, e, f]) := by
    simp only [qLdV, loadV, bsel_true, loadN, cellsAt, g2, osel_some, cellsOfB]; rfl
  have sf : sameV (.fn 104 [] []) (.fn 104 [] []) = true := rfl
  have sa : sameV (.agg [x, y, z]) (.agg [x, y, z]) = true := agg_self s1 s2 s3
  have sb : sameV (.agg [a, b, c, d, e, f]) (.agg [a, b, c, d, e, f]) = true := by simp only [sameV, sameVs, s4, s5, s6, s7, s8, s9, bsel_true]
  have lt0 : cf < S3.nx := Nat.lt_of_lt_of_le hcl hS.1
  have lt1 : S.nx < S3.nx := by omega
  have lt2 : S1.nx < S3.nx := by omega
  have ne0 : ¬ cf = S2.nx := by omega
  have ne1 : ¬ S.nx = S2.nx := by omega
  have ne2 : ¬ S1.nx = S2.nx := by omega
  refine wpc_seq (wpc_drd1 (fun c => c = S2.nx) ?_)
  intro S4 hS4
  have hS4' := hS.trans hS4
  simp only [↓stU, stD, reduceEqDiff, ↓reduceIte, ↓stV, stW, Nat.reduceAdd, ld3 g1, ld_cell g0, ld6, sf, sa, sb, lt0, lt1, lt2, ne0, ne1, ne2, not_false_eq_true]
  refine runD_call0 rfl ?_
  try simp only [↓stU, stD, reduceEqDiff, ↓reduceIte, ↓stV, stW, Nat.reduceAdd]
  refine wpf_mono (multiply_spec H (hL.same hS4') (hp.same hS4') (hq.same hS4') fp fq) ?_
  rintro w S5 ⟨hw, hS5⟩
  refine ⟨hS5, ?_⟩
  try simp only [↓stU, stD, reduceEqDiff, ↓reduceIte, ↓stV, stW, Nat.reduceAdd]
  refine runD_call0 rfl ?_
  try simp only [↓stU, stD, reduceEqDiff, ↓reduceIte, ↓stV, stW, Nat.reduceAdd]
  refine wpf_mono (plus_spec H (hL.same (hS4'.trans hS5)) (hu.same (hS4'.trans hS5)) hw fu fpq) ?_
  rintro v S6 ⟨hv, hS6⟩
  refine ⟨hS6, ?_⟩
  obtain ⟨c0, c1, c2, rfl⟩ := hv.cells
  have h36 := hS4.trans (hS5.trans hS6)
  have hb6 : S6.h.get S2.nx = some (.cells [.bool false, .nilsl, .nilsl] false 0) := by rw [h36.2 _ (by omega)]; exact hb3
  refine runD_st0 (b := S2.nx) rfl (by simp only [↓stU, stD, reduceEqDiff, ↓reduceIte, ↓stV, stW, Nat.reduceAdd]) (by simp only [↓stU, stD, reduceEqDiff, ↓reduceIte, ↓stV, stW, Nat.reduceAdd, cells_agg]; rfl) hb6 rfl rfl rfl ?_
  intro S7 hS7 hn7 hb7
  try simp only [↓stU, stD, reduceEqDiff, ↓reduceIte, ↓stV, stW, Nat.reduceAdd]
  refine wpc_ret ?_
  simp only [↓stU, stD, reduceEqDiff, ↓reduceIte, ↓stV, stW, Nat.reduceAdd, results_cell, ld3 hb7]
  exact ⟨hv.st hb6 rfl hS7 hb7, hS7.same (hS.trans h36) (by omega)⟩

theorem bounded_spec {S : St} {x y z : AV} {q : Rat} (H : Has fns) (h : RatIs S (.agg [x, y, z]) q) (hq : InBound q) : wpf fns (.fn 52 [] []) [.agg [x, y, z]] S fun r S' => r = .tup [.agg [x, y, z], .int .i64 0] ∧ RatIs S' (.agg [x, y, z]) q ∧ Same S S' := by
  refine wpf_fn H.f52 (by simp) ?_
  simp only [↓stU, stD, reduceEqDiff, ↓reduceIte]
  refine wsr ?_
  refine wpo_box (by simp only [↓stU, stD, reduceEqDiff, ↓reduceIte, cells_agg]; rfl) ?_
  intro S1 hS1 hn1 hb1
  refine wpo_alloc ?_
  intro S2 hS2 hn2 hb2
  simp only [↓stU, stD, reduceEqDiff, ↓reduceIte]
  have hS := hS1.trans hS2
  have g1 : S2.h.get S.nx = some (.cells [x, y, z] false 0) := by rw [hS2.2 _ (by omega)]; exact hb1
  refine wss ?_
  simp only [↓stU, stD, reduceEqDiff, ↓reduceIte, ld3 g1]
  refine wpo_call ?_
  simp only [↓stU, stD, reduceEqDiff, ↓reduceIte]
  refine wpf_mono (fits_spec H (h.same hS)) ?_
  rintro _ S3 ⟨bb, rfl, hbb, hS3⟩
  have : bb = true := hbb.2 hq
  subst this
  simp only [↓stU, stD, reduceEqDiff, ↓reduceIte, un_not, Bool.not_true]
  refine wpc_non (by simp only [↓stU, stD, reduceEqDiff, ↓reduceIte]) (wpc_skip ?_)
  simp only [↓stU, stD, reduceEqDiff, ↓reduceIte]
  have g1' : S3.h.get S.nx = some (.cells [x, y, z] false 0) := by rw [hS3.2 _ (by omega)]; exact g1
  have g2' : S3.h.get S1.nx = some (.cells [.bool false, .nilsl, .nilsl] false 0) := by rw [hS3.2 _ (by omega)]; exact hb2
  refine wsr ?_
  simp only [↓stU, stD, reduceEqDiff, ↓reduceIte, ld3 g1']
  refine wpo_st (b := S1.nx) (by simp only [↓stU, stD, reduceEqDiff, ↓reduceIte]) (by simp only [↓stU, stD, reduceEqDiff, ↓reduceIte, cells_agg]; rfl) g2' rfl rfl ?_
  intro S4 hS4 hn4 hb4
  simp only [↓stU, stD, reduceEqDiff, ↓reduceIte]
  refine wpc_ret ?_
  simp only [↓stU, stD, reduceEqDiff, ↓reduceIte, results_cell, ld3 hb4]
  exact ⟨(h.same (hS.trans hS3)).st g2' rfl hS4 hb4, hS4.same (hS.trans hS3) (by omega)⟩
end Go.Ev.Gl

namespace Go.Ev.Gl
variable {fns : T AFn}

/-- pairs in a block -/
def PairAt (S : St) (bp i : Nat) (p q : Rat) : Prop := ∃ a b c d e f, (∀ S' : St, S'.h.get bp = S.h.get bp → qLdV (.ptr bp (0 + i * 6)) true 6 S'.h = some (.agg [a, b, c, d, e, f])) ∧ RatIs S (.agg [a, b, c]) p ∧ RatIs S (.agg [d, e, f]) q

def FoldI (S : St) (bp n : Nat) (fv : AV) (part : Nat → Rat) (b3 b6 : Nat) (k : Nat) (A : Act') (S' : St) : Prop :=
  A.inr = false ∧ ∃ i x y z, i + k = n ∧ tmpV 1 A.F = fv ∧ tmpV 3 A.F = .ptr b3 0 ∧ tmpV 6 A.F = .ptr b6 0 ∧ tmpV 9 A.F = .sl bp 0 n n false ∧ tmpV 10 A.F = .int .i64 (n : Int) ∧ tmpV 11 A.F = .int .i64 (i : Int) ∧ Same S S' ∧ b3 < S'.nx ∧ b6 < S'.nx ∧ S'.h.get b3 = some (.cells [x, y, z] false 0) ∧ S'.h.get b6 = some (.cells [.bool false, .nilsl, .nilsl] false 0) ∧ RatIs S' (.agg [x, y, z]) (part i)

theorem fold_spec {S : St} {x y z : AV} {cf bp n : Nat} {P : Nat → Rat × Rat} {part : Nat → Rat} (H : Has fns) (hL : Laid S) (hcf : S.h.get cf = some (.cells [.fn 104 [] []] false 0)) (hcl : cf < S.nx) (hbl : bp < S.nx) (hn : n ≤ 1000)
    (h0 : RatIs S (.agg [x, y, z]) (part 0)) (hp : ∀ i, i < n → PairAt S bp i (P i).1 (P i).2) (hf : ∀ i, i < n → HalfR (part i) ∧ HalfR (P i).1 ∧ HalfR (P i).2 ∧ HalfR ((P i).1 * (P i).2) ∧ part (i + 1) = part i + (P i).1 * (P i).2) :
    wpf fns (.fn 106 [] []) [.agg [x, y, z], .fn 107 [] [.ptr cf 0], .sl bp 0 n n false] S fun r S' => RatIs S' r (part n) ∧ Same S S' := by
  have hlen : lenSlV (.sl bp 0 n n false) = some (.int .i64 (n : Int)) := rfl
  refine wpf_fn H.f106 (by simp) ?_
  simp only [↓stU, stD, reduceEqDiff, ↓reduceIte]
  refine wsr ?_
  refine wpo_box (by simp only [↓stU, stD, reduceEqDiff, ↓reduceIte, cells_agg]; rfl) ?_
  intro S1 hS1 hn1 hb1
  refine wpo_alloc ?_
  intro S2 hS2 hn2 hb2
  simp only [↓stU, stD, reduceEqDiff, ↓reduceIte]
  have hS := hS1.trans hS2
  have g1 : S2.h.get S.nx = some (.cells [x, y, z] false 0) := by rw [hS2.2 _ (by omega)]; exact hb1
  refine wss ?_
  simp only [↓stU, stD, reduceEqDiff, ↓reduceIte, hlen]
  refine wpc_mono (Q := fun o A' S' => o = .normal ∧ FoldI S bp n (.fn 107 [] [.ptr cf 0]) part S.nx S1.nx 0 A' S') ?_ ?_
  · refine wpc_block (wpc_loop (FoldI S bp n (.fn 107 [] [.ptr cf 0]) part S.nx S1.nx) ?_ n _ _ ⟨rfl, 0, x, y, z, by omega, by simp only [↓stU, stD, reduceEqDiff, ↓reduceIte], by simp only [↓stU, stD, reduceEqDiff, ↓reduceIte], by simp only [↓stU, stD, reduceEqDiff, ↓reduceIte], by simp only [↓stU, stD, reduceEqDiff, ↓reduceIte], by simp only [↓stU, stD, reduceEqDiff, ↓reduceIte], by simp only [↓stU, stD, reduceEqDiff, ↓reduceIte], hS, by omega, by omega, g1, hb2, h0.same hS⟩)
    rintro k ⟨F, inr⟩ S' ⟨q0, i, x, y, z, hik, p1, p3, p6, p9, p10, p11, hSS, hn3, hn6, c3, c6, hr⟩
    simp only at q0 p1 p3 p6 p9 p10 p11
    subst q0
    refine wsr ?_
    by_cases hi : i < n
    · simp only [↓stU, stD, reduceEqDiff, ↓reduceIte, p10, p11, decide_eq_true (show (i : Int) < (n : Int) by omega)]
      refine wpc_seq (wpc_yes (by simp only [↓stU, stD, reduceEqDiff, ↓reduceIte]) (wpc_skip ?_))
      simp only [↓stU, stD, reduceEqDiff, ↓reduceIte]
      obtain ⟨a, b, c, d, e, f, hld, hpp, hqq⟩ := hp i hi
      obtain ⟨f1, f2, f3, f4, hnext⟩ := hf i hi
      have hia : iaddrV (.slice 6) (.sl bp 0 n n false) i = some (.ptr bp (0 + i * 6)) := by
        show bsel (Nat.blt i n) (some (AV.ptr bp (0 + i * 6))) none = _
        rw [show Nat.blt i n = true from Nat.ble_eq_true_of_le hi]; rfl
      refine wpc_seq (wpc_block (wpc_seq (wpc_reg ?_)))
      simp only [↓stU, stD, reduceEqDiff, ↓reduceIte, p9, p11, hia, hld S' (hSS.2 _ hbl)]
      refine wpo_alloc ?_
      intro S3 hS3 hn3' hb3
      refine wpo_st (b := S'.nx) (by simp only [↓stU, stD, reduceEqDiff, ↓reduceIte]) (by simp only [↓stU, stD, reduceEqDiff, ↓reduceIte, cells_agg]; rfl) hb3 rfl rfl ?_
      intro S4 hS4 hn4 hb4
      simp only [↓stU, stD, reduceEqDiff, ↓reduceIte]
      have h34 : Same S' S4 := hS4.same hS3 (Nat.le_refl _)
      have hS4' := hSS.trans h34
      have k3 : S4.h.get S.nx = some (.cells [x, y, z] false 0) := by rw [h34.2 _ hn3]; exact c3
      have k6 : S4.h.get S1.nx = some (.cells [.bool false, .nilsl, .nilsl] false 0) := by rw [h34.2 _ hn6]; exact c6
      have ld6 : qLdV (.ptr S'.nx 0) true 6 S4.h = some (.agg [a, b, c, d, e, f]) := by
        simp only [qLdV, loadV, bsel_true, loadN, cellsAt, hb4, osel_some, cellsOfB]; rfl
      refine wpc_reg ?_
      simp only [↓stU, stD, reduceEqDiff, ↓reduceIte, p1, p3, ld3 k3, ld6]
      refine wpo_call ?_
      simp only [↓stU, stD, reduceEqDiff, ↓reduceIte]
      refine wpf_mono (step_spec H (hL.same hS4') (by rw [hS4'.2 _ hcl]; exact hcf) (Nat.lt_of_lt_of_le hcl hS4'.1) (hr.same h34) (hpp.same hS4') (hqq.same hS4') f1 f2 f3 f4) ?_
      rintro v S5 ⟨hv, hS5⟩
      obtain ⟨c0, c1, c2, rfl⟩ := hv.cells
      have m3 : S5.h.get S.nx = some (.cells [x, y, z] false 0) := by rw [hS5.2 _ (by omega)]; exact k3
      have m6 : S5.h.get S1.nx = some (.cells [.bool false, .nilsl, .nilsl] false 0) := by rw [hS5.2 _ (by omega)]; exact k6
      refine wpo_st (b := S.nx) (by simp only [↓stU, stD, reduceEqDiff, ↓reduceIte, p3]) (by simp only [↓stU, stD, reduceEqDiff, ↓reduceIte, cells_agg]; rfl) m3 rfl rfl ?_
      intro S6 hS6 hn6' hb6
      simp only [↓stU, stD, reduceEqDiff, ↓reduceIte]
      refine wpc_reg ?_
      have w1 : IntKind.i64.wrap ((i : Int) + 1) = ((i + 1 : Nat) : Int) := by rw [wrap_i64 (by omega) (by omega)]; omega
      simp only [↓stU, stD, reduceEqDiff, ↓reduceIte, p11, w1]
      have hl5 := hS5.1
      have hl6 := hS6.1
      refine ⟨k - 1, by omega, rfl, i + 1, c0, c1, c2, by omega, by simp only [↓stU, stD, reduceEqDiff, ↓reduceIte, p1], by simp only [↓stU, stD, reduceEqDiff, ↓reduceIte, p3], by simp only [↓stU, stD, reduceEqDiff, ↓reduceIte, p6], by simp only [↓stU, stD, reduceEqDiff, ↓reduceIte, p9], by simp only [↓stU, stD, reduceEqDiff, ↓reduceIte, p10], by simp only [↓stU, stD, reduceEqDiff, ↓reduceIte], hS6.same (hS4'.trans hS5) (Nat.le_refl _), by omega, by omega, hb6, ?_, ?_⟩
      · rw [hS6.2 _ (by omega) (by omega)]; exact m6
      · rw [hnext]; exact hv.st m3 (noInt_rat (hr.same (h34.trans hS5))) hS6 hb6
    · simp only [↓stU, stD, reduceEqDiff, ↓reduceIte, p10, p11, decide_eq_false (show ¬ (i : Int) < (n : Int) by omega)]
      refine wpc_seq (wpc_non (by simp only [↓stU, stD, reduceEqDiff, ↓reduceIte]) (wpc_exit ?_))
      simp only [↓stU, stD, reduceEqDiff, ↓reduceIte]
      exact ⟨rfl, i, x, y, z, by omega, by simp only [↓stU, stD, reduceEqDiff, ↓reduceIte, p1], by simp only [↓stU, stD, reduceEqDiff, ↓reduceIte, p3], by simp only [↓stU, stD, reduceEqDiff, ↓reduceIte, p6], by simp only [↓stU, stD, reduceEqDiff, ↓reduceIte, p9], by simp only [↓stU, stD, reduceEqDiff, ↓reduceIte, p10], by simp only [↓stU, stD, reduceEqDiff, ↓reduceIte, p11], hSS, hn3, hn6, c3, c6, hr⟩
  · rintro o ⟨F, inr⟩ S' ⟨rfl, q0, i, x, y, z, hik, p1, p3, p6, p9, p10, p11, hSS, hn3, hn6, c3, c6, hr⟩
    simp only at q0 p3 p6
    subst q0
    have : i = n := by omega
    subst this
    simp only [↓stU, stD, reduceEqDiff, ↓reduceIte]
    refine wsr ?_
    simp only [↓stU, stD, reduceEqDiff, ↓reduceIte, p3, ld3 c3]
    refine wpo_st (b := S1.nx) (by simp only [↓stU, stD, reduceEqDiff, ↓reduceIte, p6]) (by simp only [↓stU, stD, reduceEqDiff, ↓reduceIte, cells_agg]; rfl) c6 rfl rfl ?_
    intro S6 hS6 hn6' hb6
    simp only [↓stU, stD, reduceEqDiff, ↓reduceIte]
    refine wpc_ret ?_
    simp only [↓stU, stD, reduceEqDiff, ↓reduceIte, results_cell, p6, ld3 hb6]
    exact ⟨hr.st c6 rfl hS6 hb6, hS6.same hSS (by omega)⟩

theorem total_spec {S : St} {bp n : Nat} {P : Nat → Rat × Rat} {part : Nat → Rat} (H : Has fns) (hL : Laid S) (hbl : bp < S.nx) (hn : n ≤ 1000) (h0 : part 0 = 0) (hp : ∀ i, i < n → PairAt S bp i (P i).1 (P i).2)
    (hf : ∀ i, i < n → HalfR (part i) ∧ HalfR (P i).1 ∧ HalfR (P i).2 ∧ HalfR ((P i).1 * (P i).2) ∧ part (i + 1) = part i + (P i).1 * (P i).2) (hin : InBound (part n)) :
    wpf fns (.fn 67 [] []) [.sl bp 0 n n false] S fun r S' => ∃ v, r = .tup [v, .int .i64 0] ∧ RatIs S' v (part n) ∧ Same S S' := by
  refine wpf_fn H.f67 (by simp) ?_
  simp only [↓stU, stD, reduceEqDiff, ↓reduceIte]
  refine wsr ?_
  refine wpo_alloc ?_
  intro S1 hS1 hn1 hb1
  simp only [↓stU, stD, reduceEqDiff, ↓reduceIte]
  refine wsr ?_
  refine wpo_alloc ?_
  intro S2 hS2 hn2 hb2
  refine wpo_st (b := S1.nx) (by simp only [↓stU, stD, reduceEqDiff, ↓reduceIte]) (by simp only [↓stU, stD, reduceEqDiff, ↓reduceIte]; rfl) hb2 rfl rfl ?_
  intro S3 hS3 hn3 hb3
  simp only [↓stU, stD, reduceEqDiff, ↓reduceIte]
  have hS13 : Same S1 S3 := hS3.same hS2 (Nat.le_refl _)
  have hS := hS1.trans hS13
  have g1 : S3.h.get S.nx = some (.cells [.bool false, .nilsl, .nilsl] false 0) := by rw [hS13.2 _ (by omega)]; exact hb1
  refine wsr ?_
  refine wpo_call ?_
  simp only [↓stU, stD, reduceEqDiff, ↓reduceIte]
  refine wpf_mono (zero_spec H) ?_
  rintro zv S4 ⟨hz, hS4⟩
  obtain ⟨z0, z1, z2, rfl⟩ := hz.cells
  simp only [↓stU, stD, reduceEqDiff, ↓reduceIte, evQ_func]
  refine wpo_call ?_
  simp only [↓stU, stD, reduceEqDiff, ↓reduceIte]
  have hS' := hS.trans hS4
  refine wpf_mono (fold_spec (cf := S1.nx) (bp := bp) (n := n) (P := P) (part := part) H (hL.same hS') (by rw [hS4.2 _ (by omega)]; exact hb3) (by have := hS4.1; omega) (Nat.lt_of_lt_of_le hbl hS'.1) hn (by rw [h0]; exact hz) (fun i hi => ?_) hf) ?_
  · obtain ⟨a, b, c, d, e, f, h1, h2, h3⟩ := hp i hi
    exact ⟨a, b, c, d, e, f, fun T hT => h1 T (by rw [hT, hS'.2 _ hbl]), h2.same hS', h3.same hS'⟩
  rintro v S5 ⟨hv, hS5⟩
  obtain ⟨c0, c1, c2, rfl⟩ := hv.cells
  try simp only [↓stU, stD, reduceEqDiff, ↓reduceIte]
  refine wpo_call ?_
  simp only [↓stU, stD, reduceEqDiff, ↓reduceIte]
  refine wpf_mono (bounded_spec H hv hin) ?_
  rintro _ S6 ⟨rfl, hv6, hS6⟩
  simp only [↓stU, stD, reduceEqDiff, ↓reduceIte, ex0, ex1]
  have h46 := hS4.trans (hS5.trans hS6)
  have g6 : S6.h.get S.nx = some (.cells [.bool false, .nilsl, .nilsl] false 0) := by rw [h46.2 _ (by omega)]; exact g1
  refine wpo_st (b := S.nx) (by simp only [↓stU, stD, reduceEqDiff, ↓reduceIte]) (by simp only [↓stU, stD, reduceEqDiff, ↓reduceIte, cells_agg]; rfl) g6 rfl rfl ?_
  intro S7 hS7 hn7 hb7
  simp only [↓stU, stD, reduceEqDiff, ↓reduceIte]
  refine wpc_ret ?_
  simp only [↓stU, stD, reduceEqDiff, ↓reduceIte, results_cell, ld3 hb7]
  exact ⟨_, rfl, hv6.st g6 rfl hS7 hb7, hS7.same (hS.trans h46) (Nat.le_refl _)⟩

theorem both_spec {S : St} {a b : AV} {s t : Bool} {l1 m1 l2 m2 : List Nat} (H : Has fns) (hL : Laid S) (ha : RawIs S a s l1 m1) (hb : RawIs S b t l2 m2) : wpf fns (.fn 62 [] []) [a, b] S fun r S' => r = .int .i64 (if rchk s l1 m1 ≠ 0 then rchk s l1 m1 else rchk t l2 m2) ∧ Same S S' := by
  obtain ⟨nv, dv, rfl, _, _⟩ := id ha
  obtain ⟨mv, ev, rfl, _, _⟩ := id hb
  refine wpf_fn H.f62 (by simp) ?_
  simp only [↓stU, stD, reduceEqDiff, ↓reduceIte]
  refine wsr ?_
  refine wpo_box (by simp only [↓stU, stD, reduceEqDiff, ↓reduceIte, cells_agg]; rfl) ?_
  intro S1 hS1 hn1 hb1
  refine wpo_box (by simp only [↓stU, stD, reduceEqDiff, ↓reduceIte, cells_agg]; rfl) ?_
  intro S2 hS2 hn2 hb2
  simp only [↓stU, stD, reduceEqDiff, ↓reduceIte]
  have hS := hS1.trans hS2
  have g1 : S2.h.get S.nx = some (.cells [.bool s, nv, dv] false 0) := by rw [hS2.2 _ (by omega)]; exact hb1
  refine wss ?_
  simp only [↓stU, stD, reduceEqDiff, ↓reduceIte, ld3 g1]
  refine wpo_call ?_
  simp only [↓stU, stD, reduceEqDiff, ↓reduceIte]
  refine wpf_mono (check_spec H (hL.same hS) (ha.same hS)) ?_
  rintro _ S3 ⟨rfl, hS3⟩
  try simp only [↓stU, stD, reduceEqDiff, ↓reduceIte]
  refine wsr ?_
  simp only [↓stU, stD, reduceEqDiff, ↓reduceIte]
  by_cases h0 : rchk s l1 m1 = 0
  · refine wpc_non (by simp only [↓stU, stD, reduceEqDiff, ↓reduceIte, h0]; rfl) (wpc_skip ?_)
    simp only [↓stU, stD, reduceEqDiff, ↓reduceIte]
    have g2 : S3.h.get S1.nx = some (.cells [.bool t, mv, ev] false 0) := by rw [hS3.2 _ (by omega)]; exact hb2
    refine wsr ?_
    simp only [↓stU, stD, reduceEqDiff, ↓reduceIte, ld3 g2]
    refine wpo_call ?_
    simp only [↓stU, stD, reduceEqDiff, ↓reduceIte]
    refine wpf_mono (check_spec H (hL.same (hS.trans hS3)) (hb.same (hS.trans hS3))) ?_
    rintro _ S4 ⟨rfl, hS4⟩
    try simp only [↓stU, stD, reduceEqDiff, ↓reduceIte]
    refine wpc_ret ?_
    have e : (if rchk s l1 m1 ≠ 0 then rchk s l1 m1 else rchk t l2 m2) = rchk t l2 m2 := by rw [if_neg (by simp [h0])]
    rw [e]
    simp only [↓stU, stD, reduceEqDiff, ↓reduceIte]
    exact hS.trans (hS3.trans hS4)
  · refine wpc_yes (by simp only [↓stU, stD, reduceEqDiff, ↓reduceIte, decide_eq_true (show rchk s l1 m1 ≠ 0 from h0)]) ?_
    refine wsr ?_
    simp only [↓stU, stD, reduceEqDiff, ↓reduceIte]
    refine wpc_ret ?_
    rw [if_pos h0]
    simp only [↓stU, stD, reduceEqDiff, ↓reduceIte]
    exact hS.trans hS3

/-- a number that Check accepts -/
theorem RatIs.raw {S : St} {v : AV} {q : Rat} (h : RatIs S v q) (hq : InBound q) : ∃ s l m, RawIs S v s l m ∧ rchk s l m = 0 := by
  obtain ⟨nv, dv, rfl, ⟨l1, i1, j1, v1⟩, ⟨l2, i2, j2, v2⟩⟩ := h
  refine ⟨_, l1, l2, ⟨nv, dv, rfl, i1, i2⟩, rchk_zero.2 ⟨partsE_zero.2 ⟨⟨(norm_len_iff j1 _).2 (by rw [v1]; exact hq.1), j1⟩, ⟨(norm_len_iff j2 _).2 (by rw [v2]; exact hq.2), j2⟩, ?_⟩, ?_, ?_⟩⟩
  · rintro rfl
    rw [val_nil] at v2
    exact q.den_nz v2.symm
  · rintro ⟨h1, h2⟩
    subst h1
    rw [val_nil] at v1
    have := of_decide_eq_true h2
    omega
  · rw [v1, v2]; exact q.reduced

theorem both_ok {S : St} {a b : AV} {p q : Rat} (H : Has fns) (hL : Laid S) (ha : RatIs S a p) (hb : RatIs S b q) (hp : InBound p) (hq : InBound q) : wpf fns (.fn 62 [] []) [a, b] S fun r S' => r = .int .i64 0 ∧ Same S S' := by
  obtain ⟨s, l, m, h1, h2⟩ := ha.raw hp
  obtain ⟨t, l', m', h3, h4⟩ := hb.raw hq
  refine wpf_mono (both_spec H hL h1 h3) ?_
  rintro r S' ⟨rfl, hS⟩
  rw [h2, h4]
  exact ⟨rfl, hS⟩
theorem check_ok {S : St} {a : AV} {p : Rat} (H : Has fns) (hL : Laid S) (ha : RatIs S a p) (hp : InBound p) : wpf fns (.fn 31 [] []) [a] S fun r S' => r = .int .i64 0 ∧ Same S S' := by
  obtain ⟨s, l, m, h1, h2⟩ := ha.raw hp
  refine wpf_mono (check_spec H hL h1) ?_
  rintro r S' ⟨rfl, hS⟩
  rw [h2]
  exact ⟨rfl, hS⟩
end Go.Ev.Gl

namespace Go.Ev.Gl
variable {fns : T AFn}

theorem wpo_al {d m : Nat} {a : AlOp} {l : List AO} {F : Fr} {S : St} {Q : Fr → St → Prop} {v : AV} {bl : AB} (he : evA a F S.nx = some (v, bl)) (h : ∀ S1, Same S S1 → S1.nx = S.nx + 1 → S1.h.get S.nx = some bl → wpo fns l (putF (some d) F v) S1 Q) : wpo fns (⟨some d, .a a, none, m⟩ :: l) F S Q := by
  rw [wpo_aE]
  refine ⟨(v, bl), he, h _ (Same.alloc S _) rfl ?_⟩
  simp only
  rw [T.get_set, if_pos rfl]

theorem InBound.half {q : Rat} (h : InBound q) : HalfR q := Bnd.half (k := 1024) h (by decide)
theorem pow_up {x k j : Nat} (h : x < B ^ k) (hk : k ≤ j) : x < B ^ j := Nat.lt_of_lt_of_le h (Nat.pow_le_pow_right B_pos hk)
theorem inBound_zero : InBound 0 := bnd_zero 1024 (by decide)
theorem half_mul {p q : Rat} (hp : InBound p) (hq : InBound q) : HalfR (p * q) := (Bnd.mul (i := 1024) (j := 1024) hp hq).half (by decide)
theorem self_rat {S : St} {v : AV} {q : Rat} (h : RatIs S v q) : sameV v v = true := by
  obtain ⟨nv, dv, rfl, h1, h2⟩ := h
  exact agg_self (same_bool _) (nat_self h1) (nat_self h2)

theorem total1 {S : St} {bp : Nat} {p q : Rat} (H : Has fns) (hL : Laid S) (hbl : bp < S.nx) (h0 : PairAt S bp 0 p q) (hp : InBound p) (hq : InBound q) (hin : InBound (p * q)) : wpf fns (.fn 67 [] []) [.sl bp 0 1 1 false] S fun r S' => ∃ v, r = .tup [v, .int .i64 0] ∧ RatIs S' v (p * q) ∧ Same S S' := by
  have := total_spec (fns := fns) (S := S) (bp := bp) (n := 1) (P := fun _ => (p, q)) (part := fun i => if i = 0 then 0 else p * q) H hL hbl (by decide) rfl (fun i hi => ?_) (fun i hi => ?_) hin
  · exact this
  · have : i = 0 := by omega
    subst this
    exact h0
  · have : i = 0 := by omega
    subst this
    refine ⟨inBound_zero.half, hp.half, hq.half, half_mul hp hq, ?_⟩
    show p * q = 0 + p * q
    rw [Rat.zero_add]

theorem make_spec {S : St} {neg : Bool} {a b : AV} {x y : Nat} (H : Has fns) (hL : Laid S) (ha : NatIs S a x) (hb : NatIs S b y) (hx : x < B ^ 1024) (hy : y < B ^ 1024) (hy0 : 0 < y) : wpf fns (.fn 41 [] []) [.bool neg, a, b] S fun r S' => ∃ v, r = .tup [v, .int .i64 0] ∧ RatIs S' v (mkRat (sg neg x) y) ∧ Same S S' := by
  obtain ⟨l, ha1, hl, hlx⟩ := id ha
  obtain ⟨m, hb1, hm, hmy⟩ := id hb
  have hp : partsE l m = 0 := partsE_zero.2 ⟨⟨(norm_len_iff hl _).2 (by rw [hlx]; exact hx), hl⟩, ⟨(norm_len_iff hm _).2 (by rw [hmy]; exact hy), hm⟩, by rintro rfl; rw [val_nil] at hmy; omega⟩
  refine wpf_fn H.f41 (by simp) ?_
  simp only [↓stU, stD, reduceEqDiff, ↓reduceIte]
  refine wsr ?_
  refine wpo_alloc ?_
  intro S1 hS1 hn1 hb1'
  simp only [↓stU, stD, reduceEqDiff, ↓reduceIte]
  refine wss ?_
  simp only [↓stU, stD, reduceEqDiff, ↓reduceIte]
  refine wpo_call ?_
  simp only [↓stU, stD, reduceEqDiff, ↓reduceIte]
  refine wpf_mono (parts_spec H (ha1.same hS1) (hb1.same hS1)) ?_
  rintro _ T ⟨rfl, hT⟩
  rw [hT, hp]
  try simp only [↓stU, stD, reduceEqDiff, ↓reduceIte]
  refine wsr ?_
  simp only [↓stU, stD, reduceEqDiff, ↓reduceIte]
  refine wpc_non (by simp only [↓stU, stD, reduceEqDiff, ↓reduceIte]; rfl) (wpc_skip ?_)
  simp only [↓stU, stD, reduceEqDiff, ↓reduceIte]
  refine wsr ?_
  simp only [↓stU, stD, reduceEqDiff, ↓reduceIte]
  refine wpo_call ?_
  simp only [↓stU, stD, reduceEqDiff, ↓reduceIte]
  refine wpf_mono (ratio_spec H (hL.same hS1) (ha.same hS1) (hb.same hS1) (Fits.of hx (by decide)) (Fits.of hy (by decide)) hy0) ?_
  rintro v S2 ⟨hv, hS2⟩
  obtain ⟨c0, c1, c2, rfl⟩ := hv.cells
  have g2 : S2.h.get S.nx = some (.cells [.bool false, .nilsl, .nilsl] false 0) := by rw [hS2.2 _ (by omega)]; exact hb1'
  refine wpo_st (b := S.nx) (by simp only [↓stU, stD, reduceEqDiff, ↓reduceIte]) (by simp only [↓stU, stD, reduceEqDiff, ↓reduceIte, cells_agg]; rfl) g2 rfl rfl ?_
  intro S3 hS3 hn3 hb3
  simp only [↓stU, stD, reduceEqDiff, ↓reduceIte]
  refine wpc_ret ?_
  simp only [↓stU, stD, reduceEqDiff, ↓reduceIte, results_cell, ld3 hb3]
  exact ⟨_, rfl, hv.st g2 rfl hS3 hb3, hS3.same (hS1.trans hS2) (Nat.le_refl _)⟩

theorem rmul_spec {S : St} {a b : AV} {p q : Rat} (H : Has fns) (hL : Laid S) (ha : RatIs S a p) (hb : RatIs S b q) (hp : InBound p) (hq : InBound q) (hin : InBound (p * q)) : wpf fns (.fn 26 [] []) [a, b] S fun r S' => ∃ v, r = .tup [v, .int .i64 0] ∧ RatIs S' v (p * q) ∧ Same S S' := by
  obtain ⟨a0, a1, a2, rfl⟩ := ha.cells
  obtain ⟨b0, b1, b2, rfl⟩ := hb.cells
  refine wpf_fn H.f26 (by simp) ?_
  simp only [↓stU, stD, reduceEqDiff, ↓reduceIte]
  refine wsr ?_
  refine wpo_box (by simp only [↓stU, stD, reduceEqDiff, ↓reduceIte, cells_agg]; rfl) ?_
  intro S1 hS1 hn1 hc1
  refine wpo_box (by simp only [↓stU, stD, reduceEqDiff, ↓reduceIte, cells_agg]; rfl) ?_
  intro S2 hS2 hn2 hc2
  refine wpo_alloc ?_
  intro S3 hS3 hn3 hc3
  simp only [↓stU, stD, reduceEqDiff, ↓reduceIte]
  have g1 : S3.h.get S.nx = some (.cells [a0, a1, a2] false 0) := by rw [hS3.2 _ (by omega), hS2.2 _ (by omega)]; exact hc1
  have g2 : S3.h.get S1.nx = some (.cells [b0, b1, b2] false 0) := by rw [hS3.2 _ (by omega)]; exact hc2
  have hS := hS1.trans (hS2.trans hS3)
  refine wss ?_
  simp only [↓stU, stD, reduceEqDiff, ↓reduceIte, ld3 g1, ld3 g2]
  refine wpo_call ?_
  simp only [↓stU, stD, reduceEqDiff, ↓reduceIte]
  refine wpf_mono (both_ok H (hL.same hS) (ha.same hS) (hb.same hS) hp hq) ?_
  rintro _ S4 ⟨rfl, hS4⟩
  try simp only [↓stU, stD, reduceEqDiff, ↓reduceIte]
  refine wsr ?_
  simp only [↓stU, stD, reduceEqDiff, ↓reduceIte]
  refine wpc_non (by simp only [↓stU, stD, reduceEqDiff, ↓reduceIte]; rfl) (wpc_skip ?_)
  simp only [↓stU, stD, reduceEqDiff, ↓reduceIte]
  have k1 : S4.h.get S.nx = some (.cells [a0, a1, a2] false 0) := by rw [hS4.2 _ (by omega)]; exact g1
  have k2 : S4.h.get S1.nx = some (.cells [b0, b1, b2] false 0) := by rw [hS4.2 _ (by omega)]; exact g2
  have k3 : S4.h.get S2.nx = some (.cells [.bool false, .nilsl, .nilsl] false 0) := by rw [hS4.2 _ (by omega)]; exact hc3
  have hl4 := hS4.1
  refine wsr ?_
  simp only [↓stU, stD, reduceEqDiff, ↓reduceIte, ld3 k1, ld3 k2, evQ_b6, join6_eq]
  refine wpo_al (by simp only [↓stU, stD, reduceEqDiff, ↓reduceIte, evA_bs1, bs1_eq]; rfl) ?_
  intro S9 hS9 hn9 hc9
  try simp only [↓stU, stD, reduceEqDiff, ↓reduceIte]
  refine wpo_call ?_
  simp only [↓stU, stD, reduceEqDiff, ↓reduceIte]
  have hS9' := hS.trans (hS4.trans hS9)
  have pr0 : PairAt S9 S4.nx 0 p q := ⟨a0, a1, a2, b0, b1, b2, fun T hT => by rw [hc9] at hT; simp only [qLdV, loadV, bsel_true, loadN, cellsAt, hT, osel_some, cellsOfB]; rfl, ha.same hS9', hb.same hS9'⟩
  refine wpf_mono (total1 H (hL.same hS9') (by omega) pr0 hp hq hin) ?_
  rintro _ S10 ⟨v, rfl, hv, hS10⟩
  obtain ⟨c0, c1, c2, rfl⟩ := hv.cells
  simp only [↓stU, stD, reduceEqDiff, ↓reduceIte, ex0, ex1]
  have k10 : S10.h.get S2.nx = some (.cells [.bool false, .nilsl, .nilsl] false 0) := by rw [hS10.2 _ (by omega), hS9.2 _ (by omega)]; exact k3
  refine wpo_st (b := S2.nx) (by simp only [↓stU, stD, reduceEqDiff, ↓reduceIte]) (by simp only [↓stU, stD, reduceEqDiff, ↓reduceIte, cells_agg]; rfl) k10 rfl rfl ?_
  intro S11 hS11 hn11 hb11
  simp only [↓stU, stD, reduceEqDiff, ↓reduceIte]
  refine wpc_ret ?_
  simp only [↓stU, stD, reduceEqDiff, ↓reduceIte, results_cell, ld3 hb11]
  exact ⟨_, rfl, hv.st k10 rfl hS11 hb11, hS11.same (hS9'.trans hS10) (by omega)⟩
end Go.Ev.Gl

namespace Go.Ev.Gl
variable {fns : T AFn}

/-! ## The rules, with what lies beyond the last block -/
/-! ## Signs -/
end Go.Ev.Gl

namespace Go.Ev.Gl
variable {fns : T AFn}

/-! ## The statements' own tools -/
theorem bin_rem_nat (e : EqT) (k : IntKind) {t d : Nat} (hd : 0 < d) : binV .rem e (.int k ((t : Nat) : Int)) (.int k ((d : Nat) : Int)) = some (.int k ((t % d : Nat) : Int)) := by
  show intsBin .rem k (Int.ofNat t) k (Int.ofNat d) = _
  unfold intsBin
  rw [show isShift .rem = false from rfl, bsel_false, keq_refl, bsel_true]
  show bsel (Nat.beq d 0) none (some (AV.int k (.ofNat (t % d)))) = _
  have h0 : Nat.beq d 0 = false := by rw [Bool.eq_false_iff]; intro h; rw [Nat.beq_eq] at h; omega
  rw [h0, bsel_false]
  rfl
def AlikeI (S : St) (a b : AV) (l m : List Nat) (k : Nat) (A : Act') (S' : St) : Prop :=
  A.inr = false ∧ S'.h = S.h ∧ S.nx ≤ S'.nx ∧ ∃ i : Nat, i + k = l.length ∧ tmpV 0 A.F = a ∧ tmpV 1 A.F = b ∧ tmpV 5 A.F = .int .i64 (i : Int) ∧ l.take i = m.take i

theorem same_of_h {S S' : St} (h1 : S'.h = S.h) (h2 : S.nx ≤ S'.nx) : Same S S' := ⟨h2, fun _ _ => by rw [h1]⟩

theorem alike_spec {S : St} {a b : AV} {l m : List Nat} (H : Has fns) (ha : LimbIs S a l) (hb : LimbIs S b m) (hl : l.length ≤ 1000000) : wpf fns (.fn 38 [] []) [a, b] S fun r S' => r = .bool (decide (l = m)) ∧ Same S S' := by
  refine wpf_fn H.f38 (by simp) ?_
  simp only [↓stU, stD, reduceEqDiff, ↓reduceIte]
  refine wsr ?_
  simp only [↓stU, stD, reduceEqDiff, ↓reduceIte]
  refine wss ?_
  simp only [↓stU, stD, reduceEqDiff, ↓reduceIte, ha.len, hb.len]
  by_cases hlen : l.length = m.length
  · refine wpc_non (by simp only [↓stU, stD, reduceEqDiff, ↓reduceIte, decide_eq_false (show ¬ ((l.length : Nat) : Int) ≠ ((m.length : Nat) : Int) by omega)]) (wpc_skip ?_)
    simp only [↓stU, stD, reduceEqDiff, ↓reduceIte]
    refine wss ?_
    simp only [↓stU, stD, reduceEqDiff, ↓reduceIte]
    refine wpc_mono (Q := fun o A' S' => Same S S' ∧ ((o = .normal ∧ l = m) ∨ (o = .ret ∧ tmpV 4 A'.F = .bool false ∧ l ≠ m))) ?_ ?_
    · refine wpc_block (wpc_loop (AlikeI S a b l m) ?_ l.length _ _ ⟨rfl, rfl, Nat.le_refl _, 0, by omega, by simp only [↓stU, stD, reduceEqDiff, ↓reduceIte], by simp only [↓stU, stD, reduceEqDiff, ↓reduceIte], by simp only [↓stU, stD, reduceEqDiff, ↓reduceIte], by simp⟩)
      rintro k ⟨F, inr⟩ S' ⟨q0, hh, hnx, i, hik, p0, p1, p5, htk⟩
      simp only at q0 p0 p1 p5
      subst q0
      have hS := same_of_h hh hnx
      have ha' := ha.same hS
      have hb' := hb.same hS
      refine wss ?_
      simp only [↓stU, stD, reduceEqDiff, ↓reduceIte, p0, p5, ha.len]
      by_cases hi : i < l.length
      · refine wpc_yes (by simp only [↓stU, stD, reduceEqDiff, ↓reduceIte, decide_eq_true (show (i : Int) < ((l.length : Nat) : Int) by omega)]) (wpc_skip ?_)
        simp only [↓stU, stD, reduceEqDiff, ↓reduceIte]
        have l1 := ha'.ld hi
        have l2 := hb'.ld (i := i) (by omega)
        rw [List.getD_eq_getElem?_getD] at l1 l2
        have t1 : l.take (i + 1) = l.take i ++ [l[i]?.getD 0] := by rw [List.take_add_one, List.getElem?_eq_getElem hi]; rfl
        have t2 : m.take (i + 1) = m.take i ++ [m[i]?.getD 0] := by rw [List.take_add_one, List.getElem?_eq_getElem (by omega : i < m.length)]; rfl
        refine wpc_seq (wpc_block (wpc_seq (wpc_drq ?_)))
        simp only [↓stU, stD, reduceEqDiff, ↓reduceIte, ↓stV, stW, Nat.reduceAdd, p0, p1, p5, ha.iaddr hi, hb.iaddr (show i < m.length by omega), l1, l2]
        by_cases hxy : l[i]?.getD 0 = m[i]?.getD 0
        · refine wpc_non (by simp only [↓stU, stD, reduceEqDiff, ↓reduceIte, hxy]; simp) (wpc_skip ?_)
          simp only [↓stU, stD, reduceEqDiff, ↓reduceIte]
          refine wpc_reg ?_
          have w1 : IntKind.i64.wrap ((i : Int) + 1) = ((i + 1 : Nat) : Int) := by rw [wrap_i64 (by omega) (by omega)]; omega
          simp only [↓stU, stD, reduceEqDiff, ↓reduceIte, p5, w1]
          exact ⟨k - 1, by omega, rfl, hh, by simp; omega, i + 1, by omega, by simp only [↓stU, stD, reduceEqDiff, ↓reduceIte, p0], by simp only [↓stU, stD, reduceEqDiff, ↓reduceIte, p1], by simp only [↓stU, stD, reduceEqDiff, ↓reduceIte], by rw [t1, t2, htk, hxy]⟩
        · refine wpc_yes (by simp only [↓stU, stD, reduceEqDiff, ↓reduceIte]; simp; omega) ?_
          refine wsr ?_
          simp only [↓stU, stD, reduceEqDiff, ↓reduceIte]
          refine wpc_ret ?_
          simp only [↓stU, stD, reduceEqDiff, ↓reduceIte]
          exact ⟨hS.trans (Same.nx S' _), .inr (by rintro rfl; exact hxy rfl)⟩
      · refine wpc_non (by simp only [↓stU, stD, reduceEqDiff, ↓reduceIte, decide_eq_false (show ¬ (i : Int) < ((l.length : Nat) : Int) by omega)]) (wpc_exit ?_)
        simp only [↓stU, stD, reduceEqDiff, ↓reduceIte]
        rw [List.take_of_length_le (by omega), List.take_of_length_le (by omega)] at htk
        exact ⟨hS, .inl htk⟩
    rintro o ⟨F, inr⟩ S' ⟨hS, ⟨rfl, he⟩ | ⟨rfl, p4, hne⟩⟩
    · simp only [↓stU, stD, reduceEqDiff, ↓reduceIte]
      refine wsr ?_
      simp only [↓stU, stD, reduceEqDiff, ↓reduceIte]
      refine wpc_ret ?_
      simp only [↓stU, stD, reduceEqDiff, ↓reduceIte, decide_eq_true he]
      exact hS
    · simp only at p4
      simp only [↓stU, stD, reduceEqDiff, ↓reduceIte, p4, decide_eq_false hne]
      exact hS
  · refine wpc_yes (by simp only [↓stU, stD, reduceEqDiff, ↓reduceIte, decide_eq_true (show ((l.length : Nat) : Int) ≠ ((m.length : Nat) : Int) by omega)]) ?_
    refine wsr ?_
    simp only [↓stU, stD, reduceEqDiff, ↓reduceIte]
    refine wpc_ret ?_
    have : ¬ l = m := by rintro rfl; exact hlen rfl
    simp only [↓stU, stD, reduceEqDiff, ↓reduceIte, decide_eq_false this]
    exact Same.refl _

theorem alike_nat {S : St} {a b : AV} {x y : Nat} (H : Has fns) (ha : NatIs S a x) (hb : NatIs S b y) (hx : Fits x) : wpf fns (.fn 38 [] []) [a, b] S fun r S' => r = .bool (decide (x = y)) ∧ Same S S' := by
  obtain ⟨l, h1, h2, h3⟩ := ha
  obtain ⟨m, k1, k2, k3⟩ := hb
  have := Fits.len h2 (by rw [h3]; exact hx)
  refine wpf_mono (alike_spec H h1 k1 (by omega)) ?_
  rintro r S' ⟨rfl, hS⟩
  refine ⟨?_, hS⟩
  congr 1
  apply decide_eq_decide.2
  rw [← h3, ← k3]
  exact ⟨fun h => by rw [h], fun h => norm_inj h2 k2 h⟩

theorem rat_eq_iff (p q : Rat) : p = q ↔ (decide (p.num < 0) = decide (q.num < 0)) ∧ p.num.natAbs = q.num.natAbs ∧ p.den = q.den := by
  constructor
  · rintro rfl; exact ⟨rfl, rfl, rfl⟩
  · rintro ⟨h1, h2, h3⟩
    have : p.num = q.num := by rw [← sg_num p, ← sg_num q, h1, h2]
    exact Rat.ext this h3

theorem sameRat_spec {S : St} {a b : AV} {p q : Rat} (H : Has fns) (ha : RatIs S a p) (hb : RatIs S b q) (hp : FitsR p) : wpf fns (.fn 14 [] []) [a, b] S fun r S' => r = .bool (decide (p = q)) ∧ Same S S' := by
  obtain ⟨nv, dv, rfl, h1, h2⟩ := ha
  obtain ⟨mv, ev, rfl, h3, h4⟩ := hb
  refine wpf_fn H.f14 (by simp) ?_
  simp only [↓stU, stD, reduceEqDiff, ↓reduceIte]
  refine wsr ?_
  refine wpo_box (by simp only [↓stU, stD, reduceEqDiff, ↓reduceIte, cells_agg]; rfl) ?_
  intro S1 hS1 hn1 hb1
  refine wpo_box (by simp only [↓stU, stD, reduceEqDiff, ↓reduceIte, cells_agg]; rfl) ?_
  intro S2 hS2 hn2 hb2
  simp only [↓stU, stD, reduceEqDiff, ↓reduceIte]
  have hS := hS1.trans hS2
  have g1 : S2.h.get S.nx = some (.cells [.bool (decide (p.num < 0)), nv, dv] false 0) := by rw [hS2.2 _ (by omega)]; exact hb1
  have hpq := rat_eq_iff p q
  refine wpc_seq (wpc_mono (Q := fun o A' S' => o = .normal ∧ Same S S' ∧ tmpV 4 A'.F = .bool (decide (p = q))) ?_ ?_)
  · refine wpc_reg ?_
    by_cases e1 : decide (p.num < 0) = decide (q.num < 0)
    · simp only [↓stU, stD, reduceEqDiff, ↓reduceIte, evQ_faddr, faddr_ptr, ld3_0 g1, ld3_0 hb2, ld3_1 g1, ld3_1 hb2, eq_bool, e1, beq_self_eq_true]
      refine wpo_call ?_
      simp only [↓stU, stD, reduceEqDiff, ↓reduceIte]
      refine wpf_mono (alike_nat H (h1.same hS) (h3.same hS) hp.1) ?_
      rintro _ S3 ⟨rfl, hS3⟩
      have g1' : S3.h.get S.nx = some (.cells [.bool (decide (p.num < 0)), nv, dv] false 0) := by rw [hS3.2 _ (by omega)]; exact g1
      have g2' : S3.h.get S1.nx = some (.cells [.bool (decide (q.num < 0)), mv, ev] false 0) := by rw [hS3.2 _ (by omega)]; exact hb2
      by_cases e2 : p.num.natAbs = q.num.natAbs
      · simp only [↓stU, stD, reduceEqDiff, ↓reduceIte, decide_eq_true e2, evQ_faddr, faddr_ptr, ld3_2 g1', ld3_2 g2']
        refine wpo_call ?_
        simp only [↓stU, stD, reduceEqDiff, ↓reduceIte]
        refine wpf_mono (alike_nat H (h2.same (hS.trans hS3)) (h4.same (hS.trans hS3)) hp.2) ?_
        rintro _ S4 ⟨rfl, hS4⟩
        try simp only [↓stU, stD, reduceEqDiff, ↓reduceIte]
        refine ⟨hS.trans (hS3.trans hS4), ?_⟩
        congr 1
        exact decide_eq_decide.2 ⟨fun h => hpq.2 ⟨e1, e2, h⟩, fun h => by rw [h]⟩
      · simp only [↓stU, stD, reduceEqDiff, ↓reduceIte, decide_eq_false e2]
        refine ⟨hS.trans hS3, ?_⟩
        rw [decide_eq_false (fun h => e2 (hpq.1 h).2.1)]
    · have : (decide (p.num < 0) == decide (q.num < 0)) = false := by simpa using e1
      simp only [↓stU, stD, reduceEqDiff, ↓reduceIte, evQ_faddr, faddr_ptr, ld3_0 g1, ld3_0 hb2, eq_bool, this]
      refine ⟨hS, ?_⟩
      rw [decide_eq_false (fun h => e1 (hpq.1 h).1)]
  · rintro o ⟨F, inr⟩ S' ⟨rfl, hS, p4⟩
    simp only at p4
    simp only [↓stU, stD, reduceEqDiff, ↓reduceIte]
    refine wpc_ret ?_
    simp only [↓stU, stD, reduceEqDiff, ↓reduceIte, p4]
    exact hS
end Go.Ev.Gl

namespace Go.Ev.Gl
variable {fns : T AFn}

def LimbsI (S : St) (v : AV) (l : List Nat) (k : Nat) (A : Act') (S' : St) : Prop :=
  A.inr = false ∧ ∃ (i : Nat) (d : List Nat) (u : AV), i + k = l.length ∧ d.length = i ∧ tmpV 0 A.F = v ∧ tmpV 3 A.F = u ∧ tmpV 4 A.F = .int .i64 (i : Int) ∧ GrIs S S' u d ∧ Same S S' ∧ Small d

def TrimI (S : St) (n : Nat) (k : Nat) (A : Act') (S' : St) : Prop :=
  S' = S ∧ A.inr = false ∧ ∃ u m, tmpV 3 A.F = u ∧ LimbIs S u m ∧ m.length = k ∧ Small m ∧ val m = n ∧ m.length ≤ 1000

theorem remB32 (e : EqT) (t : Nat) : binV .rem e (.int .u32 ((t : Nat) : Int)) (.int .u32 1000000000) = some (.int .u32 ((t % B : Nat) : Int)) := bin_rem_nat e .u32 B_pos

/-- Limbs makes a number of any list; how long it is -/
theorem limbs_spec {S : St} {v : AV} {l : List Nat} (H : Has fns) (h : LimbIs S v l) (hl : l.length ≤ 8) : wpf fns (.fn 78 [] []) [v] S fun r S' => ∃ n, NatIs S' r n ∧ n < B ^ 8 ∧ Same S S' := by
  refine wpf_fn H.f78 (by simp) ?_
  simp only [↓stU, stD, reduceEqDiff, ↓reduceIte]
  refine wsr ?_
  simp only [↓stU, stD, reduceEqDiff, ↓reduceIte]
  refine wsr ?_
  simp only [↓stU, stD, reduceEqDiff, ↓reduceIte]
  refine wss ?_
  simp only [↓stU, stD, reduceEqDiff, ↓reduceIte]
  refine wpc_mono (Q := fun o A' S' => o = .normal ∧ LimbsI S v l 0 A' S') ?_ ?_
  · refine wpc_block (wpc_loop (LimbsI S v l) ?_ l.length _ _ ⟨rfl, 0, [], .nilsl, by omega, rfl, by simp only [↓stU, stD, reduceEqDiff, ↓reduceIte], by simp only [↓stU, stD, reduceEqDiff, ↓reduceIte], by simp only [↓stU, stD, reduceEqDiff, ↓reduceIte], .inl ⟨rfl, rfl⟩, Same.refl _, Small.nil⟩)
    rintro k ⟨F, inr⟩ S' ⟨q0, i, d, u, hik, hd, p0, p3, p4, hg, hS, hsd⟩
    simp only at q0 p0 p3 p4
    subst q0
    have h' := h.same hS
    refine wss ?_
    simp only [↓stU, stD, reduceEqDiff, ↓reduceIte, p0, p4, h.len]
    by_cases hi : i < l.length
    · refine wpc_yes (by simp only [↓stU, stD, reduceEqDiff, ↓reduceIte, decide_eq_true (show (i : Int) < ((l.length : Nat) : Int) by omega)]) (wpc_skip ?_)
      simp only [↓stU, stD, reduceEqDiff, ↓reduceIte]
      have hld := h'.ld hi
      rw [List.getD_eq_getElem?_getD] at hld
      have hrem := remB32 (.p .int) (l[i]?.getD 0)
      have hmod : l[i]?.getD 0 % B < B := Nat.mod_lt _ B_pos
      generalize l[i]?.getD 0 % B = r at hrem hmod
      obtain ⟨v', S2, happ, hg2, hS2⟩ := hg.app (w := r) (bytes := 4) hS (by unfold room; omega) (by unfold room; omega)
      refine wpc_seq (wpc_block (wpc_reg ?_))
      simp only [↓stU, stD, reduceEqDiff, ↓reduceIte, ↓stV, stW, Nat.reduceAdd, p0, p3, p4, h.iaddr hi, hld, hrem]
      rw [evA_one (k := .u32) (n := (r : Int)) (by simp only [↓stU, stD, reduceEqDiff, ↓reduceIte, ↓stV, stW, Nat.reduceAdd])]
      try simp only [↓stU, stD, reduceEqDiff, ↓reduceIte, ↓stV, stW, Nat.reduceAdd]
      refine wpo_x (fun call => by simp only [↓stU, stD, reduceEqDiff, ↓reduceIte, ↓stV, stW, Nat.reduceAdd, evX_app, p3]; exact happ) ?_
      try simp only [↓stU, stD, reduceEqDiff, ↓reduceIte, ↓stV, stW, Nat.reduceAdd]
      refine wpc_reg ?_
      have w1 : IntKind.i64.wrap ((i : Int) + 1) = ((i + 1 : Nat) : Int) := by rw [wrap_i64 (by omega) (by omega)]; omega
      simp only [↓stU, stD, reduceEqDiff, ↓reduceIte, ↓stV, stW, Nat.reduceAdd, p4, w1]
      exact ⟨k - 1, by omega, rfl, i + 1, d ++ [r], v', by omega, by simp [hd], by simp only [↓stU, stD, reduceEqDiff, ↓reduceIte, ↓stV, stW, Nat.reduceAdd, p0], by simp only [↓stU, stD, reduceEqDiff, ↓reduceIte, ↓stV, stW, Nat.reduceAdd], by simp only [↓stU, stD, reduceEqDiff, ↓reduceIte, ↓stV, stW, Nat.reduceAdd], hg2, hS2, Small.append.2 ⟨hsd, small_one hmod⟩⟩
    · refine wpc_non (by simp only [↓stU, stD, reduceEqDiff, ↓reduceIte, decide_eq_false (show ¬ (i : Int) < ((l.length : Nat) : Int) by omega)]) (wpc_exit ?_)
      simp only [↓stU, stD, reduceEqDiff, ↓reduceIte]
      exact ⟨rfl, i, d, u, by omega, hd, by simp only [↓stU, stD, reduceEqDiff, ↓reduceIte, p0], by simp only [↓stU, stD, reduceEqDiff, ↓reduceIte, p3], by simp only [↓stU, stD, reduceEqDiff, ↓reduceIte, p4], hg, hS, hsd⟩
  · rintro o ⟨F, inr⟩ S' ⟨rfl, q0, i, d, u, hik, hd, p0, p3, p4, hg, hS, hsd⟩
    simp only at q0 p0 p3 p4
    subst q0
    have hvl : val d < B ^ 8 := Nat.lt_of_lt_of_le (val_lt hsd) (Nat.pow_le_pow_right B_pos (by omega))
    simp only [↓stU, stD, reduceEqDiff, ↓reduceIte]
    refine wpc_seq (wpc_mono (Q := fun o A' S'' => o = .normal ∧ S'' = S' ∧ A'.inr = false ∧ NatIs S' (tmpV 3 A'.F) (val d)) ?_ ?_)
    · refine wpc_block (wpc_loop (TrimI S' (val d)) ?_ d.length _ _ ⟨rfl, rfl, u, d, p3, hg.limbs, rfl, hsd, rfl, by omega⟩)
      rintro k ⟨F, inr⟩ S2 ⟨hS2, q0, u, m, h0, hu, hk, hsm, hv, hle⟩
      simp only at q0 h0
      subst q0
      rw [hS2]
      refine wss ?_
      by_cases hm : m = []
      · subst hm
        simp only [↓stU, stD, reduceEqDiff, ↓reduceIte, h0, hu.len]
        refine wpc_non (by simp only [↓stU, stD, reduceEqDiff, ↓reduceIte]; rfl) (wpc_exit ?_)
        simp only [↓stU, stD, reduceEqDiff, ↓reduceIte, h0]
        exact ⟨[], hu, norm_nil, hv⟩
      · obtain ⟨m', x, rfl⟩ : ∃ m' x, m = m' ++ [x] := ⟨m.dropLast, m.getLast hm, (List.dropLast_concat_getLast hm).symm⟩
        have hL : (m' ++ [x]).length = m'.length + 1 := by simp
        have hlt : m'.length < (m' ++ [x]).length := by omega
        have hlen' := hu.len
        rw [hL] at hlen'
        have w1 : IntKind.i64.wrap (((m'.length + 1 : Nat) : Int) - 1) = (m'.length : Int) := by rw [wrap_i64 (by omega) (by omega)]; omega
        have e2 : (m' ++ [x]).getD m'.length 0 = x := by simp
        have hld := hu.ld hlt
        rw [e2] at hld
        simp only [↓stU, stD, reduceEqDiff, ↓reduceIte, h0, hlen', decide_eq_true (show (0 : Int) < ((m'.length + 1 : Nat) : Int) by omega), w1, hu.iaddr hlt, hld]
        by_cases hx : x = 0
        · subst hx
          refine wpc_yes (by simp only [↓stU, stD, reduceEqDiff, ↓reduceIte]; rfl) (wpc_skip ?_)
          simp only [↓stU, stD, reduceEqDiff, ↓reduceIte]
          refine wpc_block (wpc_reg ?_)
          have hh := hu.head hlt
          rw [List.take_left' rfl] at hh
          simp only [↓stU, stD, reduceEqDiff, ↓reduceIte, h0, hlen', w1]
          rw [hu.slc hlt (by simp only [↓stU, stD, reduceEqDiff, ↓reduceIte])]
          simp only [↓stU, stD, reduceEqDiff, ↓reduceIte]
          refine ⟨m'.length, by omega, rfl, rfl, _, m', by simp only [↓stU, stD, reduceEqDiff, ↓reduceIte], hh, rfl, (Small.append.1 hsm).1, ?_, by omega⟩
          rw [← hv, val_snoc, Nat.mul_zero, Nat.add_zero]
        · refine wpc_non (by simp only [↓stU, stD, reduceEqDiff, ↓reduceIte, decide_eq_false (show ¬ ((x : Nat) : Int) = 0 by omega)]) (wpc_exit ?_)
          simp only [↓stU, stD, reduceEqDiff, ↓reduceIte, h0]
          exact ⟨m' ++ [x], hu, ⟨hsm, by simp [hx]⟩, hv⟩
    rintro o ⟨F, inr⟩ S2 ⟨rfl, hS2, q0, hN⟩
    simp only at q0 hN
    subst q0
    rw [hS2]
    simp only [↓stU, stD, reduceEqDiff, ↓reduceIte]
    refine wsr ?_
    simp only [↓stU, stD, reduceEqDiff, ↓reduceIte]
    refine wpc_ret ?_
    simp only [↓stU, stD, reduceEqDiff, ↓reduceIte]
    exact ⟨val d, hN, hvl, hS⟩

def NatOfI (S : St) (n : Nat) (k : Nat) (A : Act') (S' : St) : Prop :=
  A.inr = false ∧ ∃ (d : List Nat) (v : AV), tmpV 0 A.F = .int .i64 (k : Int) ∧ k ≤ n ∧ tmpV 3 A.F = v ∧ GrIs S S' v d ∧ Same S S' ∧ Small d ∧ val d + B ^ d.length * k = n ∧ (d = [] ∨ B ^ (d.length - 1) ≤ n)

theorem natOf_spec {S : St} {n : Nat} (H : Has fns) (hn : n ≤ 9223372036854775807) : wpf fns (.fn 61 [] []) [.int .i64 (n : Int)] S fun r S' => NatIs S' r n ∧ Same S S' := by
  refine wpf_fn H.f61 (by simp) ?_
  simp only [↓stU, stD, reduceEqDiff, ↓reduceIte]
  refine wsr ?_
  simp only [↓stU, stD, reduceEqDiff, ↓reduceIte]
  refine wsr ?_
  simp only [↓stU, stD, reduceEqDiff, ↓reduceIte]
  refine wpc_seq (wpc_block (wpc_loop (NatOfI S n) ?_ n _ _ ⟨rfl, [], .nilsl, by simp only [↓stU, stD, reduceEqDiff, ↓reduceIte], Nat.le_refl _, by simp only [↓stU, stD, reduceEqDiff, ↓reduceIte], .inl ⟨rfl, rfl⟩, Same.refl S, Small.nil, by simp [val_nil], .inl rfl⟩))
  rintro k ⟨F, inr⟩ S' ⟨q0, d, v, p0, hk, p3, hv, hS, hsd, hinv, hlow⟩
  simp only at q0 p0 p3
  subst q0
  refine wss ?_
  simp only [↓stU, stD, reduceEqDiff, ↓reduceIte, ↓stV, stW, Nat.reduceAdd, p0]
  by_cases hk0 : 0 < k
  · refine wpc_yes (by simp only [↓stU, stD, reduceEqDiff, ↓reduceIte, ↓stV, stW, Nat.reduceAdd, decide_eq_true (show (0 : Int) < (k : Int) by omega)]) (wpc_skip ?_)
    try simp only [↓stU, stD, reduceEqDiff, ↓reduceIte, ↓stV, stW, Nat.reduceAdd]
    have hquo := bin_quo_i (.p .int) (a := (k : Int)) (b := 1000000000) (by omega) (by omega) (by decide)
    rw [show (k : Int) / 1000000000 = ((k / B : Nat) : Int) from rfl] at hquo
    have hrem := bin_rem_nat (.p .int) .i64 (t := k) (d := B) B_pos
    rw [show ((B : Nat) : Int) = 1000000000 from rfl] at hrem
    have hdm : k / B * B + k % B = k := by rw [Nat.mul_comm]; exact Nat.div_add_mod k B
    have hmod : k % B < 1000000000 := Nat.mod_lt k B_pos
    have hdiv : k / B < k := Nat.div_lt_self hk0 (by decide)
    have hpow : B ^ d.length ≤ n := by
      have : B ^ d.length * 1 ≤ B ^ d.length * k := Nat.mul_le_mul_left _ hk0
      omega
    have hdl : d.length ≤ 100 := by
      rcases Nat.lt_or_ge 100 d.length with h | h
      · have h1 : B ^ 3 ≤ B ^ d.length := Nat.pow_le_pow_right B_pos (by omega)
        have h2 : (18446744073709551615 : Nat) < B ^ 3 := by decide
        omega
      · exact h
    have hstep : val d + B ^ d.length * (k % B) + B ^ (d.length + 1) * (k / B) = n := by
      rw [← hinv, Nat.pow_succ, Nat.mul_assoc, Nat.add_assoc, ← Nat.mul_add]
      congr 2
      rw [Nat.mul_comm B, Nat.add_comm]
      exact hdm
    generalize k / B = q at hdm hquo hdiv hstep
    generalize k % B = r at hdm hmod hrem hstep
    have w1 : IntKind.u32.wrap (r : Int) = (r : Int) := wrap_u32 (by omega) (by omega)
    obtain ⟨v', S2, happ, hg, hS2⟩ := hv.app (w := r) (bytes := 4) hS (by unfold room; omega) (by unfold room; omega)
    refine wpc_block (wpc_seq (wpc_reg ?_))
    simp only [↓stU, stD, reduceEqDiff, ↓reduceIte, ↓stV, stW, Nat.reduceAdd, p0, p3, hrem, w1]
    rw [evA_one (k := .u32) (n := (r : Int)) (by simp only [↓stU, stD, reduceEqDiff, ↓reduceIte, ↓stV, stW, Nat.reduceAdd])]
    try simp only [↓stU, stD, reduceEqDiff, ↓reduceIte, ↓stV, stW, Nat.reduceAdd]
    refine wpo_x (fun call => by simp only [↓stU, stD, reduceEqDiff, ↓reduceIte, ↓stV, stW, Nat.reduceAdd, evX_app, p3]; exact happ) ?_
    try simp only [↓stU, stD, reduceEqDiff, ↓reduceIte, ↓stV, stW, Nat.reduceAdd]
    refine wpc_reg ?_
    simp only [↓stU, stD, reduceEqDiff, ↓reduceIte, ↓stV, stW, Nat.reduceAdd, p0, hquo]
    exact ⟨q, hdiv, rfl, d ++ [r], v', by simp only [↓stU, stD, reduceEqDiff, ↓reduceIte, ↓stV, stW, Nat.reduceAdd], by omega, by simp only [↓stU, stD, reduceEqDiff, ↓reduceIte, ↓stV, stW, Nat.reduceAdd], hg, hS2, Small.append.2 ⟨hsd, small_one hmod⟩, by rw [val_snoc, List.length_append]; exact hstep, by right; rw [List.length_append]; exact hpow⟩
  · have hk0 : k = 0 := by omega
    subst hk0
    refine wpc_non (by simp only [↓stU, stD, reduceEqDiff, ↓reduceIte, ↓stV, stW, Nat.reduceAdd]; rfl) (wpc_exit ?_)
    try simp only [↓stU, stD, reduceEqDiff, ↓reduceIte, ↓stV, stW, Nat.reduceAdd]
    refine wsr ?_
    simp only [↓stU, stD, reduceEqDiff, ↓reduceIte, ↓stV, stW, Nat.reduceAdd, p3]
    refine wpc_ret ?_
    try simp only [↓stU, stD, reduceEqDiff, ↓reduceIte, ↓stV, stW, Nat.reduceAdd]
    refine ⟨⟨d, hv.limbs, norm_of_low hsd ?_, by simpa using hinv⟩, hS⟩
    rcases hlow with h | h
    · exact .inl h
    · right
      simp at hinv
      omega

def KgI (S : St) (g : Nat) (k : Nat) (A : Act') (S' : St) : Prop :=
  A.inr = false ∧ S'.h = S.h ∧ S.nx ≤ S'.nx ∧ ∃ a b : Nat, tmpV 0 A.F = .int .i64 (a : Int) ∧ tmpV 1 A.F = .int .i64 (b : Int) ∧ a ≤ 9223372036854775807 ∧ b ≤ 9223372036854775807 ∧ Nat.gcd a b = g ∧ k = b

theorem kgcd_spec {S : St} {x y : Nat} (H : Has fns) (hx : x ≤ 9223372036854775807) (hy : y ≤ 9223372036854775807) : wpf fns (.fn 60 [] []) [.int .i64 (x : Int), .int .i64 (y : Int)] S fun r S' => r = .int .i64 ((Nat.gcd x y : Nat) : Int) ∧ Same S S' := by
  refine wpf_fn H.f60 (by simp) ?_
  try simp only [↓stU, stD, reduceEqDiff, ↓reduceIte, ↓stV, stW, Nat.reduceAdd]
  refine wsr ?_
  try simp only [↓stU, stD, reduceEqDiff, ↓reduceIte, ↓stV, stW, Nat.reduceAdd]
  refine wpc_seq (wpc_mono (Q := fun o A' S' => o = .normal ∧ Same S S' ∧ tmpV 0 A'.F = .int .i64 ((Nat.gcd x y : Nat) : Int) ∧ Nat.gcd x y ≤ 9223372036854775807) ?_ ?_)
  · refine wpc_block (wpc_loop (KgI S (Nat.gcd x y)) ?_ y _ _ ⟨rfl, rfl, Nat.le_refl _, x, y, by simp only [↓stU, stD, reduceEqDiff, ↓reduceIte, ↓stV, stW, Nat.reduceAdd], by simp only [↓stU, stD, reduceEqDiff, ↓reduceIte, ↓stV, stW, Nat.reduceAdd], hx, hy, rfl, rfl⟩)
    rintro k ⟨F, inr⟩ S' ⟨q0, hh, hnx, a, b, p0, p1, ha, hb, hg, rfl⟩
    simp only at q0 p0 p1
    subst q0
    refine wss ?_
    simp only [↓stU, stD, reduceEqDiff, ↓reduceIte, ↓stV, stW, Nat.reduceAdd, p1]
    rcases Nat.eq_zero_or_pos k with h0 | hkp
    · subst h0
      refine wpc_non (by simp only [↓stU, stD, reduceEqDiff, ↓reduceIte, ↓stV, stW, Nat.reduceAdd]; rfl) (wpc_exit ?_)
      rw [Nat.gcd_zero_right] at hg
      rw [← hg]
      simp only [↓stU, stD, reduceEqDiff, ↓reduceIte, ↓stV, stW, Nat.reduceAdd, p0]
      exact ⟨same_of_h hh hnx, ha⟩
    · refine wpc_yes (by simp only [↓stU, stD, reduceEqDiff, ↓reduceIte, ↓stV, stW, Nat.reduceAdd, decide_eq_true (show (k : Int) ≠ 0 by omega)]) (wpc_skip ?_)
      try simp only [↓stU, stD, reduceEqDiff, ↓reduceIte, ↓stV, stW, Nat.reduceAdd]
      have hrem := bin_rem_nat (.p .int) .i64 (t := a) (d := k) hkp
      refine wpc_block (wpc_drq ?_)
      simp only [↓stU, stD, reduceEqDiff, ↓reduceIte, ↓stV, stW, Nat.reduceAdd, p0, p1, hrem]
      refine ⟨a % k, Nat.mod_lt _ hkp, rfl, hh, by simp; omega, k, a % k, by simp only [↓stU, stD, reduceEqDiff, ↓reduceIte, ↓stV, stW, Nat.reduceAdd], by simp only [↓stU, stD, reduceEqDiff, ↓reduceIte, ↓stV, stW, Nat.reduceAdd], hb, by have := Nat.mod_lt a hkp; omega, ?_, rfl⟩
      rw [← hg, Nat.gcd_comm a k, Nat.gcd_rec k a, Nat.gcd_comm]
  · rintro o ⟨F, inr⟩ S' ⟨rfl, hS, p0, hg⟩
    simp only at p0
    try simp only [↓stU, stD, reduceEqDiff, ↓reduceIte, ↓stV, stW, Nat.reduceAdd]
    refine wsr ?_
    have w1 : IntKind.i64.wrap (-((Nat.gcd x y : Nat) : Int)) = -((Nat.gcd x y : Nat) : Int) := wrap_i64 (by omega) (by omega)
    simp only [↓stU, stD, reduceEqDiff, ↓reduceIte, ↓stV, stW, Nat.reduceAdd, p0, un_neg_i, w1, evQ_mm, mm_cons, mm_int, mm_nil]
    refine wpc_ret ?_
    have : mx ((Nat.gcd x y : Nat) : Int) (-((Nat.gcd x y : Nat) : Int)) = ((Nat.gcd x y : Nat) : Int) := by unfold mx; rw [if_pos (by omega)]
    simp only [↓stU, stD, reduceEqDiff, ↓reduceIte, ↓stV, stW, Nat.reduceAdd, this]
    exact hS

theorem ratOf_spec {S : St} {a : Int} {b : Nat} (H : Has fns) (ha : -9223372036854775807 ≤ a ∧ a ≤ 9223372036854775807) (hb0 : 0 < b) (hb : b ≤ 9223372036854775807) : wpf fns (.fn 16 [] []) [.int .i64 a, .int .i64 (b : Int)] S fun r S' => RatIs S' r (mkRat a b) ∧ Same S S' := by
  have hg : 0 < Nat.gcd a.natAbs b := Nat.gcd_pos_of_pos_right _ hb0
  have w1 : IntKind.i64.wrap (-a) = -a := wrap_i64 (by omega) (by omega)
  have hmx : mx a (-a) = ((a.natAbs : Nat) : Int) := by unfold mx; split <;> omega
  refine wpf_fn H.f16 (by simp) ?_
  simp only [↓stU, stD, reduceEqDiff, ↓reduceIte]
  refine wsr ?_
  refine wpo_alloc ?_
  intro S1 hS1 hn1 hb1
  simp only [↓stU, stD, reduceEqDiff, ↓reduceIte]
  refine wsr ?_
  simp only [↓stU, stD, reduceEqDiff, ↓reduceIte, ↓stV, stW, Nat.reduceAdd, un_neg_i, w1, evQ_mm, mm_cons, mm_int, mm_nil, hmx]
  refine wpo_call ?_
  try simp only [↓stU, stD, reduceEqDiff, ↓reduceIte, ↓stV, stW, Nat.reduceAdd]
  refine wpf_mono (kgcd_spec H (by omega) hb) ?_
  rintro _ S2 ⟨rfl, hS2⟩
  try simp only [↓stU, stD, reduceEqDiff, ↓reduceIte, ↓stV, stW, Nat.reduceAdd]
  obtain ⟨g, hge⟩ : ∃ g, g = Nat.gcd a.natAbs b := ⟨_, rfl⟩
  rw [← hge] at hg ⊢
  have hga : g ∣ a.natAbs := by rw [hge]; exact Nat.gcd_dvd_left ..
  have hgb : g ≤ 9223372036854775807 := by have := Nat.gcd_le_right a.natAbs hb0; rw [← hge] at this; omega
  -- the quotients
  have hq2 : binV .quo (.p .int) (.int .i64 (b : Int)) (.int .i64 (g : Int)) = some (.int .i64 ((b / g : Nat) : Int)) := by
    rw [bin_quo_i (.p .int) (by omega) (by omega) (by omega)]; rfl
  obtain ⟨n, hn⟩ : ∃ n, n = a.natAbs / g := ⟨_, rfl⟩
  have hnle : n ≤ 9223372036854775807 := by have := Nat.div_le_self a.natAbs g; omega
  obtain ⟨s, hs⟩ : ∃ s, s = decide (a < 0) := ⟨_, rfl⟩
  have hq1 : binV .quo (.p .int) (.int .i64 a) (.int .i64 (g : Int)) = some (.int .i64 (sg s n)) := by
    rw [bin_quo_t (.p .int) (by omega)]
    congr 2
    by_cases hneg : a < 0
    · have e1 : a = -((a.natAbs : Nat) : Int) := by omega
      have e2 : a.tdiv (g : Int) = -((n : Nat) : Int) := by
        rw [e1, Int.neg_tdiv, Int.tdiv_eq_ediv_of_nonneg (by omega), hn]
        rfl
      rw [e2, hs, decide_eq_true hneg]
      exact wrap_i64 (by omega) (by omega)
    · have e1 : a = ((a.natAbs : Nat) : Int) := by omega
      have e2 : a.tdiv (g : Int) = ((n : Nat) : Int) := by
        rw [Int.tdiv_eq_ediv_of_nonneg (by omega), e1, hn]; rfl
      rw [e2, hs, decide_eq_false hneg]
      exact wrap_i64 (by omega) (by omega)
  obtain ⟨e1, e2, e3⟩ := lowest (neg := s) (n := a.natAbs) (d := b) (g := g) hge (by omega)
  have esg : sg s a.natAbs = a := by rw [hs]; unfold sg; by_cases h : a < 0 <;> simp [h] <;> omega
  rw [esg] at e1
  rw [← hn] at e1 e2
  rw [← e1]
  have hsn : n = 0 → s = false := fun h => by
    rw [hs]
    have : a.natAbs = 0 := by
      have := Nat.div_mul_cancel hga
      rw [← hn, h] at this; omega
    exact decide_eq_false (by omega)
  have hbg : b / g ≤ 9223372036854775807 := by have := Nat.div_le_self b g; omega
  refine wpc_seq (wpc_drq ?_)
  simp only [↓stU, stD, reduceEqDiff, ↓reduceIte, ↓stV, stW, Nat.reduceAdd, hq1, hq2]
  obtain ⟨T, hT⟩ : ∃ T : St, T = ⟨S2.h, S2.nx + 8⟩ := ⟨_, rfl⟩
  rw [← hT]
  have hST : Same S2 T := by rw [hT]; exact Same.nx S2 8
  have hS0 := hS1.trans (hS2.trans hST)
  have gT : T.h.get S.nx = some (.cells [.bool false, .nilsl, .nilsl] false 0) := by rw [hST.2 _ (by have := hS2.1; omega), hS2.2 _ (by omega)]; exact hb1
  have ltT : S.nx < T.nx := by have := hS2.1; have := hST.1; omega
  refine wss ?_
  try simp only [↓stU, stD, reduceEqDiff, ↓reduceIte, ↓stV, stW, Nat.reduceAdd]
  cases hsb : s with
  | true =>
    rw [hsb] at e1 hsn
    have hn0 : 0 < n := by rcases Nat.eq_zero_or_pos n with h | h
                           · have := hsn h; cases this
                           · exact h
    have hlt : sg true n < 0 := by show -(n : Int) < 0; omega
    have w2 : IntKind.i64.wrap (-(sg true n)) = (n : Int) := by show IntKind.i64.wrap (- -(n : Int)) = _; rw [Int.neg_neg]; exact wrap_i64 (by omega) (by omega)
    refine wpc_yes (by simp only [↓stU, stD, reduceEqDiff, ↓reduceIte, ↓stV, stW, Nat.reduceAdd, decide_eq_true hlt]) ?_
    refine wsr ?_
    simp only [↓stU, stD, reduceEqDiff, ↓reduceIte, ↓stV, stW, Nat.reduceAdd, un_neg_i, w2]
    refine wpo_call ?_
    try simp only [↓stU, stD, reduceEqDiff, ↓reduceIte, ↓stV, stW, Nat.reduceAdd]
    refine wpf_mono (natOf_spec H hnle) ?_
    rintro nv S3 ⟨hnv, hS3⟩
    try simp only [↓stU, stD, reduceEqDiff, ↓reduceIte, ↓stV, stW, Nat.reduceAdd]
    refine wpo_call ?_
    try simp only [↓stU, stD, reduceEqDiff, ↓reduceIte, ↓stV, stW, Nat.reduceAdd]
    refine wpf_mono (natOf_spec H hbg) ?_
    rintro dv S4 ⟨hdv, hS4⟩
    have hbd : ∀ F : Fr, tmpV 22 F = nv → tmpV 24 F = dv → evQ (.build [(.bool false), .nilsl, .nilsl] [(0, 1, (.c (.bool true))), (1, 1, (.t 22)), (2, 1, (.t 24))]) F S4.h = some (.agg [.bool true, nv, dv]) := fun F h h' => by
      show osel (fillP [.bool false, .nilsl, .nilsl] [(0, 1, .bool true), (1, 1, tmpV 22 F), (2, 1, tmpV 24 F)]) (fun cs => some (AV.agg cs)) = _
      rw [h, h']
      simp only [fillP, cells_bool, nat_cells hnv, nat_cells hdv, osel_some]
      rfl
    try simp only [↓stU, stD, reduceEqDiff, ↓reduceIte, ↓stV, stW, Nat.reduceAdd]
    rw [hbd _ (by simp only [↓stU, stD, reduceEqDiff, ↓reduceIte, ↓stV, stW, Nat.reduceAdd]) (by simp only [↓stU, stD, reduceEqDiff, ↓reduceIte, ↓stV, stW, Nat.reduceAdd])]
    try simp only [↓stU, stD, reduceEqDiff, ↓reduceIte, ↓stV, stW, Nat.reduceAdd]
    have g4 : S4.h.get S.nx = some (.cells [.bool false, .nilsl, .nilsl] false 0) := by rw [hS4.2 _ (by have := hS3.1; omega), hS3.2 _ ltT]; exact gT
    refine wpo_st (b := S.nx) (by simp only [↓stU, stD, reduceEqDiff, ↓reduceIte, ↓stV, stW, Nat.reduceAdd]) (by simp only [↓stU, stD, reduceEqDiff, ↓reduceIte, ↓stV, stW, Nat.reduceAdd, cells_agg]; rfl) g4 rfl rfl ?_
    intro S5 hS5 hn5 hb5
    try simp only [↓stU, stD, reduceEqDiff, ↓reduceIte, ↓stV, stW, Nat.reduceAdd]
    refine wpc_ret ?_
    simp only [↓stU, stD, reduceEqDiff, ↓reduceIte, ↓stV, stW, Nat.reduceAdd, results_cell, ld3 hb5]
    exact ⟨ratIs_mk ((hnv.same hS4).st g4 rfl hS5 hb5) (hdv.st g4 rfl hS5 hb5) e3 e2 hsn, hS5.same (hS0.trans (hS3.trans hS4)) (Nat.le_refl _)⟩
  | false =>
    rw [hsb] at e1
    have hlt : ¬ sg false n < 0 := by show ¬ (n : Int) < 0; omega
    refine wpc_non (by simp only [↓stU, stD, reduceEqDiff, ↓reduceIte, ↓stV, stW, Nat.reduceAdd, decide_eq_false hlt]) (wpc_skip ?_)
    try simp only [↓stU, stD, reduceEqDiff, ↓reduceIte, ↓stV, stW, Nat.reduceAdd]
    refine wsr ?_
    simp only [↓stU, stD, reduceEqDiff, ↓reduceIte, ↓stV, stW, Nat.reduceAdd, show sg false n = (n : Int) from rfl]
    refine wpo_call ?_
    try simp only [↓stU, stD, reduceEqDiff, ↓reduceIte, ↓stV, stW, Nat.reduceAdd]
    refine wpf_mono (natOf_spec H hnle) ?_
    rintro nv S3 ⟨hnv, hS3⟩
    try simp only [↓stU, stD, reduceEqDiff, ↓reduceIte, ↓stV, stW, Nat.reduceAdd]
    refine wpo_call ?_
    try simp only [↓stU, stD, reduceEqDiff, ↓reduceIte, ↓stV, stW, Nat.reduceAdd]
    refine wpf_mono (natOf_spec H hbg) ?_
    rintro dv S4 ⟨hdv, hS4⟩
    have hbd : ∀ F : Fr, tmpV 27 F = nv → tmpV 29 F = dv → evQ (.build [(.bool false), .nilsl, .nilsl] [(1, 1, (.t 27)), (2, 1, (.t 29))]) F S4.h = some (.agg [.bool false, nv, dv]) := fun F h h' => by
      show osel (fillP [.bool false, .nilsl, .nilsl] [(1, 1, tmpV 27 F), (2, 1, tmpV 29 F)]) (fun cs => some (AV.agg cs)) = _
      rw [h, h']
      simp only [fillP, nat_cells hnv, nat_cells hdv, osel_some]
      rfl
    try simp only [↓stU, stD, reduceEqDiff, ↓reduceIte, ↓stV, stW, Nat.reduceAdd]
    rw [hbd _ (by simp only [↓stU, stD, reduceEqDiff, ↓reduceIte, ↓stV, stW, Nat.reduceAdd]) (by simp only [↓stU, stD, reduceEqDiff, ↓reduceIte, ↓stV, stW, Nat.reduceAdd])]
    try simp only [↓stU, stD, reduceEqDiff, ↓reduceIte, ↓stV, stW, Nat.reduceAdd]
    have g4 : S4.h.get S.nx = some (.cells [.bool false, .nilsl, .nilsl] false 0) := by rw [hS4.2 _ (by have := hS3.1; omega), hS3.2 _ ltT]; exact gT
    refine wpo_st (b := S.nx) (by simp only [↓stU, stD, reduceEqDiff, ↓reduceIte, ↓stV, stW, Nat.reduceAdd]) (by simp only [↓stU, stD, reduceEqDiff, ↓reduceIte, ↓stV, stW, Nat.reduceAdd, cells_agg]; rfl) g4 rfl rfl ?_
    intro S5 hS5 hn5 hb5
    try simp only [↓stU, stD, reduceEqDiff, ↓reduceIte, ↓stV, stW, Nat.reduceAdd]
    refine wpc_ret ?_
    simp only [↓stU, stD, reduceEqDiff, ↓reduceIte, ↓stV, stW, Nat.reduceAdd, results_cell, ld3 hb5]
    exact ⟨ratIs_mk ((hnv.same hS4).st g4 rfl hS5 hb5) (hdv.st g4 rfl hS5 hb5) e3 e2 (fun _ => rfl), hS5.same (hS0.trans (hS3.trans hS4)) (Nat.le_refl _)⟩
end Go.Ev.Gl

namespace Go.Ev.Gl
variable {fns : T AFn}

theorem of_spec' {S : St} {a : Int} {b : Nat} (H : Has fns) (ha : -9223372036854775807 ≤ a ∧ a ≤ 9223372036854775807) (hb0 : 0 < b) (hb : b ≤ 9223372036854775807) : wpf fns (.fn 19 [] []) [.int .i64 a, .int .i64 (b : Int)] S fun r S' => RatIs S' r (mkRat a b) ∧ Same S S' := by
  refine wpf_fn H.f19 (by simp) ?_
  simp only [↓stU, stD, reduceEqDiff, ↓reduceIte]
  refine wsr ?_
  refine wpo_alloc ?_
  intro S1 hS1 hn1 hb1
  simp only [↓stU, stD, reduceEqDiff, ↓reduceIte]
  refine wsr ?_
  simp only [↓stU, stD, reduceEqDiff, ↓reduceIte]
  refine wpo_call ?_
  simp only [↓stU, stD, reduceEqDiff, ↓reduceIte]
  refine wpf_mono (ratOf_spec H ha hb0 hb) ?_
  rintro v S2 ⟨hv, hS2⟩
  obtain ⟨c0, c1, c2, rfl⟩ := hv.cells
  have g2 : S2.h.get S.nx = some (.cells [.bool false, .nilsl, .nilsl] false 0) := by rw [hS2.2 _ (by omega)]; exact hb1
  refine wpo_st (b := S.nx) (by simp only [↓stU, stD, reduceEqDiff, ↓reduceIte]) (by simp only [↓stU, stD, reduceEqDiff, ↓reduceIte, cells_agg]; rfl) g2 rfl rfl ?_
  intro S3 hS3 hn3 hb3
  simp only [↓stU, stD, reduceEqDiff, ↓reduceIte]
  refine wpc_ret ?_
  simp only [↓stU, stD, reduceEqDiff, ↓reduceIte, results_cell, ld3 hb3]
  exact ⟨hv.st g2 rfl hS3 hb3, hS3.same (hS1.trans hS2) (Nat.le_refl _)⟩

theorem product_spec {S : St} {a b : AV} {p q : Rat} (H : Has fns) (hL : Laid S) (ha : RatIs S a p) (hb : RatIs S b q) (hp : InBound p) (hq : InBound q) (hin : InBound (p * q)) : wpf fns (.fn 35 [] []) [a, b] S fun r S' => RatIs S' r (p * q) ∧ Same S S' := by
  obtain ⟨a0, a1, a2, rfl⟩ := ha.cells
  obtain ⟨b0, b1, b2, rfl⟩ := hb.cells
  refine wpf_fn H.f35 (by simp) ?_
  simp only [↓stU, stD, reduceEqDiff, ↓reduceIte]
  refine wsr ?_
  refine wpo_box (by simp only [↓stU, stD, reduceEqDiff, ↓reduceIte, cells_agg]; rfl) ?_
  intro S1 hS1 hn1 hc1
  refine wpo_box (by simp only [↓stU, stD, reduceEqDiff, ↓reduceIte, cells_agg]; rfl) ?_
  intro S2 hS2 hn2 hc2
  refine wpo_alloc ?_
  intro S3 hS3 hn3 hc3
  simp only [↓stU, stD, reduceEqDiff, ↓reduceIte]
  have g1 : S3.h.get S.nx = some (.cells [a0, a1, a2] false 0) := by rw [hS3.2 _ (by omega), hS2.2 _ (by omega)]; exact hc1
  have g2 : S3.h.get S1.nx = some (.cells [b0, b1, b2] false 0) := by rw [hS3.2 _ (by omega)]; exact hc2
  have hS := hS1.trans (hS2.trans hS3)
  refine wsr ?_
  simp only [↓stU, stD, reduceEqDiff, ↓reduceIte, ld3 g1, ld3 g2]
  refine wpo_call ?_
  simp only [↓stU, stD, reduceEqDiff, ↓reduceIte]
  refine wpf_mono (rmul_spec H (hL.same hS) (ha.same hS) (hb.same hS) hp hq hin) ?_
  rintro _ S4 ⟨v, rfl, hv, hS4⟩
  obtain ⟨c0, c1, c2, rfl⟩ := hv.cells
  simp only [↓stU, stD, reduceEqDiff, ↓reduceIte, ex0, ex1]
  refine wpo_alloc ?_
  intro S5 hS5 hn5 hc5
  refine wpo_st (b := S4.nx) (by simp only [↓stU, stD, reduceEqDiff, ↓reduceIte]) (by simp only [↓stU, stD, reduceEqDiff, ↓reduceIte, cells_agg]; rfl) hc5 rfl rfl ?_
  intro S6 hS6 hn6 hb6
  simp only [↓stU, stD, reduceEqDiff, ↓reduceIte]
  have h46 : Same S4 S6 := hS6.same hS5 (Nat.le_refl _)
  have g6 : S6.h.get S2.nx = some (.cells [.bool false, .nilsl, .nilsl] false 0) := by rw [h46.2 _ (by have := hS4.1; omega), hS4.2 _ (by omega)]; exact hc3
  refine wsr ?_
  simp only [↓stU, stD, reduceEqDiff, ↓reduceIte, ld3 hb6]
  refine wpo_st (b := S2.nx) (by simp only [↓stU, stD, reduceEqDiff, ↓reduceIte]) (by simp only [↓stU, stD, reduceEqDiff, ↓reduceIte, cells_agg]; rfl) g6 rfl rfl ?_
  intro S7 hS7 hn7 hb7
  simp only [↓stU, stD, reduceEqDiff, ↓reduceIte]
  refine wpc_ret ?_
  simp only [↓stU, stD, reduceEqDiff, ↓reduceIte, results_cell, ld3 hb7]
  exact ⟨(hv.same h46).st g6 rfl hS7 hb7, hS7.same (hS.trans (hS4.trans h46)) (by omega)⟩

theorem bnd_mk {s : Bool} {n d : Nat} (hn : n < B ^ 8) (hd : d < B ^ 8) (h0 : 0 < d) : Bnd 8 (mkRat (sg s n) d) := by
  obtain ⟨h1, h2⟩ := mkRat_le (n := sg s n) (d := d) (by omega)
  rw [sg_natAbs] at h1
  exact ⟨by omega, by omega⟩
theorem Bnd.inBound {k : Nat} {q : Rat} (h : Bnd k q) (hk : k ≤ 1024) : InBound q := by unfold InBound; exact Bnd.mono (j := 1024) h hk

theorem number_spec {S : St} {a b : AV} {l m : List Nat} {neg : Bool} (H : Has fns) (hL : Laid S) (ha : LimbIs S a l) (hb : LimbIs S b m) (hl : l.length ≤ 8) (hm : m.length ≤ 8) : wpf fns (.fn 33 [] []) [a, b, .bool neg] S fun r S' => ∃ v q, r = .tup [v, .bool true] ∧ RatIs S' v q ∧ Bnd 8 q ∧ Same S S' := by
  refine wpf_fn H.f33 (by simp) ?_
  simp only [↓stU, stD, reduceEqDiff, ↓reduceIte]
  refine wsr ?_
  refine wpo_alloc ?_
  intro S1 hS1 hn1 hc1
  simp only [↓stU, stD, reduceEqDiff, ↓reduceIte]
  refine wsr ?_
  simp only [↓stU, stD, reduceEqDiff, ↓reduceIte]
  refine wpo_call ?_
  simp only [↓stU, stD, reduceEqDiff, ↓reduceIte]
  refine wpf_mono (limbs_spec H (hb.same hS1) hm) ?_
  rintro dv S2 ⟨d, hd, hd8, hS2⟩
  try simp only [↓stU, stD, reduceEqDiff, ↓reduceIte]
  obtain ⟨k, hk, hk0⟩ := lenpos hd
  refine wpc_seq (wpc_mono (Q := fun o A' S' => o = .normal ∧ A'.inr = false ∧ Same S2 S' ∧ tmpV 0 A'.F = a ∧ tmpV 2 A'.F = .bool neg ∧ tmpV 6 A'.F = .ptr S.nx 0 ∧ ∃ dv d, tmpV 8 A'.F = dv ∧ NatIs S' dv d ∧ 0 < d ∧ d < B ^ 8) ?_ ?_)
  · refine wsr ?_
    simp only [↓stU, stD, reduceEqDiff, ↓reduceIte, hk]
    by_cases h0 : k = 0
    · refine wpc_yes (by simp only [↓stU, stD, reduceEqDiff, ↓reduceIte, decide_eq_true (show (k : Int) = 0 by omega)]) (wpc_reg ?_)
      refine wpo_al (evA_one (k := .u32) (n := 1) (by simp only [↓stU, stD, reduceEqDiff, ↓reduceIte])) ?_
      intro S3 hS3 hn3 hc3
      simp only [↓stU, stD, reduceEqDiff, ↓reduceIte]
      refine ⟨hS3, _, 1, rfl, ⟨[1], ?_, norm_one, val_one⟩, by decide, by decide⟩
      exact limbs_own (l := [1]) (b := S2.nx) (n := 1) (cap := 1) (o' := false) hc3 (by omega) rfl (Nat.le_refl _)
    · refine wpc_non (by simp only [↓stU, stD, reduceEqDiff, ↓reduceIte, decide_eq_false (show ¬ (k : Int) = 0 by omega)]) (wpc_skip ?_)
      simp only [↓stU, stD, reduceEqDiff, ↓reduceIte]
      refine ⟨Same.refl _, _, d, rfl, hd, ?_, hd8⟩
      rcases Nat.eq_zero_or_pos d with h | h
      · exact absurd (hk0.2 h) h0
      · exact h
  rintro o ⟨F, inr⟩ S3 ⟨rfl, q0, hS3, p0, p2, p6, dv, d, p8, hd, hdp, hd8⟩
  simp only at q0 p0 p2 p6 p8
  subst q0
  try simp only [↓stU, stD, reduceEqDiff, ↓reduceIte]
  have hS13 := hS1.trans (hS2.trans hS3)
  refine wsr ?_
  simp only [↓stU, stD, reduceEqDiff, ↓reduceIte, p0, p2]
  refine wpo_call ?_
  simp only [↓stU, stD, reduceEqDiff, ↓reduceIte]
  refine wpf_mono (limbs_spec H (ha.same hS13) hl) ?_
  rintro nv S4 ⟨n, hn, hn8, hS4⟩
  simp only [↓stU, stD, reduceEqDiff, ↓reduceIte, p8]
  refine wpo_call ?_
  simp only [↓stU, stD, reduceEqDiff, ↓reduceIte]
  refine wpf_mono (make_spec (neg := neg) H (hL.same (hS13.trans hS4)) hn (hd.same hS4) (pow_up (j := 1024) hn8 (by decide)) (pow_up (j := 1024) hd8 (by decide)) hdp) ?_
  rintro _ S5 ⟨v, rfl, hv, hS5⟩
  have hq8 := bnd_mk (s := neg) hn8 hd8 hdp
  generalize mkRat (sg neg n) d = q at *
  obtain ⟨c0, c1, c2, rfl⟩ := hv.cells
  simp only [↓stU, stD, reduceEqDiff, ↓reduceIte, ex0, ex1]
  refine wpo_alloc ?_
  intro S6 hS6 hn6 hc6
  refine wpo_st (b := S5.nx) (by simp only [↓stU, stD, reduceEqDiff, ↓reduceIte]) (by simp only [↓stU, stD, reduceEqDiff, ↓reduceIte, cells_agg]; rfl) hc6 rfl rfl ?_
  intro S7 hS7 hn7 hb7
  simp only [↓stU, stD, reduceEqDiff, ↓reduceIte]
  have h57 : Same S5 S7 := hS7.same hS6 (Nat.le_refl _)
  have h17 := (hS2.trans hS3).trans (hS4.trans (hS5.trans h57))
  have g7 : S7.h.get S.nx = some (.cells [.bool false, .nilsl, .nilsl] false 0) := by rw [h17.2 _ (by omega)]; exact hc1
  have hv7 := hv.same h57
  have l15 := ((hS2.trans hS3).trans (hS4.trans hS5)).1
  have lt5 : S5.nx < S7.nx := by omega
  have ne5 : ¬ S5.nx = S.nx := by omega
  refine wpc_seq (wpc_drd1 (fun c => c = S.nx) ?_)
  intro S8 hS8
  simp only [↓stU, stD, reduceEqDiff, ↓reduceIte, ↓stV, stW, Nat.reduceAdd, ld3 hb7, lt5, ne5, not_false_eq_true, self_rat hv7, decide_true]
  refine runD_call0 rfl ?_
  try simp only [↓stU, stD, reduceEqDiff, ↓reduceIte, ↓stV, stW, Nat.reduceAdd]
  refine wpf_mono (check_ok H (hL.same (hS1.trans (h17.trans hS8))) (hv7.same hS8) (hq8.inBound (by decide))) ?_
  rintro _ S9 ⟨rfl, hS9⟩
  refine ⟨hS9, ?_⟩
  simp only [↓stU, stD, reduceEqDiff, ↓reduceIte, ↓stV, stW, Nat.reduceAdd, decide_true]
  have g9 : S9.h.get S.nx = some (.cells [.bool false, .nilsl, .nilsl] false 0) := by rw [hS9.2 _ (by have := hS8.1; omega), hS8.2 _ (by omega)]; exact g7
  refine runD_st0 (b := S.nx) rfl (by simp only [↓stU, stD, reduceEqDiff, ↓reduceIte, ↓stV, stW, Nat.reduceAdd, p6]) (by simp only [↓stU, stD, reduceEqDiff, ↓reduceIte, ↓stV, stW, Nat.reduceAdd, cells_agg]; rfl) g9 rfl rfl rfl ?_
  intro S10 hS10 hn10 hb10
  simp only [↓stU, stD, reduceEqDiff, ↓reduceIte, ↓stV, stW, Nat.reduceAdd]
  refine wpc_ret ?_
  simp only [↓stU, stD, reduceEqDiff, ↓reduceIte, ↓stV, stW, Nat.reduceAdd, results_cell, p6, ld3 hb10]
  exact ⟨_, q, rfl, (hv7.same (hS8.trans hS9)).st g9 rfl hS10 hb10, hq8, hS10.same (hS1.trans (h17.trans (hS8.trans hS9))) (Nat.le_refl _)⟩
end Go.Ev.Gl

namespace Go.Ev.Gl
variable {fns : T AFn}

/-! ## Comparing -/
theorem den_pos (q : Rat) : (0 : Int) < q.den := by have := q.den_nz; omega

end Go.Ev.Gl

namespace Go.Ev.Gl
variable {fns : T AFn}

/-! ## The whole numbers below and above -/
end Go.Ev.Gl

namespace Go.Ev.Gl
variable {fns : T AFn}

/-! ## Plain facts on comparing -/
end Go.Ev.Gl

namespace Go.Ev.Gl

/-! ## The simplest number between two: plain facts. n / d lies between a / b and c / e, and each that lies there has no smaller parts -/
end Go.Ev.Gl

namespace Go.Ev.Gl
variable {fns : T AFn}

/-! ## The simplest number between two positive numbers -/
theorem ld6 {h : T AB} {b i j : Nat} {cs : List AV} {o : Bool} {s : Nat} {x : AV} (hb : h.get b = some (.cells cs o s)) (hi : cs[0 + i + j]? = some x) : qLdV (.ptr b (0 + i + j)) false 1 h = some x := by
  simp only [qLdV, loadV, bsel_false, load1, cellsAt, hb, osel_some, cellsOfB, nth_eq]; exact hi

end Go.Ev.Gl

namespace Go.Ev.Gl
variable {fns : T AFn}

/-! ## The simplest number between two numbers -/
theorem InBound.neg {q : Rat} (h : InBound q) : InBound (-q) := by
  unfold InBound
  rw [Rat.neg_num, Rat.neg_den, Int.natAbs_neg]
  exact h

end Go.Ev.Gl

namespace Go.Ev.Gl
variable {fns : T AFn}

/-! ## A store into a block that holds no limbs -/
def noU : List AV → Bool
  | [] => true
  | .int .u32 _ :: _ => false
  | _ :: l => noU l
theorem noU_get : ∀ {cs : List AV} {i : Nat} {n : Int}, noU cs = true → cs[i]? ≠ some (.int .u32 n)
  | [], _, _, _ => by simp
  | x :: l, 0, n, h => by
    intro e
    simp at e
    subst e
    simp [noU] at h
  | x :: l, i + 1, n, h => by
    rw [List.getElem?_cons_succ]
    refine noU_get (cs := l) ?_
    cases x with
    | int k m => cases k <;> first | exact h | (simp [noU] at h)
    | _ => exact h
theorem LimbIs.stU {S S' : St} {v : AV} {l : List Nat} {b : Nat} {cs cs' : List AV} {o o' : Bool} {s s' : Nat} (h : LimbIs S v l) (hb : S.h.get b = some (.cells cs o s)) (hn : noU cs = true) (hs : SameBut b S S') (hb' : S'.h.get b = some (.cells cs' o' s')) : LimbIs S' v l := by
  rcases h with h | ⟨b1, off, cap, o1, cs1, rfl, hc, hlt, hcs, hel⟩
  · exact .inl h
  · by_cases e : b1 = b
    · subst e
      have h0 : l = [] := by
        cases l with
        | nil => rfl
        | cons x l =>
          have := hel 0 (Int.ofNat x) (by simp)
          unfold cellsAt at hcs
          rw [hb, osel_some] at hcs
          cases hcs
          exact absurd this (noU_get hn)
      subst h0
      refine .inr ⟨b1, off, cap, o1, cs', rfl, hc, Nat.lt_of_lt_of_le hlt hs.1, by unfold cellsAt; rw [hb', osel_some]; rfl, fun i x hi => by simp at hi⟩
    · refine .inr ⟨b1, off, cap, o1, cs1, rfl, hc, Nat.lt_of_lt_of_le hlt hs.1, ?_, hel⟩
      unfold cellsAt at hcs ⊢
      rw [hs.2 _ hlt e]
      exact hcs
theorem NatIs.stU {S S' : St} {v : AV} {n : Nat} {b : Nat} {cs cs' : List AV} {o o' : Bool} {s s' : Nat} (h : NatIs S v n) (hb : S.h.get b = some (.cells cs o s)) (hn : noU cs = true) (hs : SameBut b S S') (hb' : S'.h.get b = some (.cells cs' o' s')) : NatIs S' v n := by
  obtain ⟨l, h1, h2, h3⟩ := h
  exact ⟨l, h1.stU hb hn hs hb', h2, h3⟩
theorem RatIs.stU {S S' : St} {v : AV} {q : Rat} {b : Nat} {cs cs' : List AV} {o o' : Bool} {s s' : Nat} (h : RatIs S v q) (hb : S.h.get b = some (.cells cs o s)) (hn : noU cs = true) (hs : SameBut b S S') (hb' : S'.h.get b = some (.cells cs' o' s')) : RatIs S' v q := by
  obtain ⟨nv, dv, h1, h2, h3⟩ := h
  exact ⟨nv, dv, h1, h2.stU hb hn hs hb', h3.stU hb hn hs hb'⟩

/-! ## Remainders -/
end Go.Ev.Gl

namespace Go.Ev.Gl
variable {fns : T AFn}

/-! ## Draws -/
def DrawsAt (S : St) (bd : Nat) (slv : AV) (zs : List Int) (pos : Nat) : Prop :=
  S.h.get bd = some (.cells [slv, .int .i64 (pos : Int)] false 0) ∧ IsSl .i64 S slv zs ∧ (∀ b off len cap o, slv = .sl b off len cap o → b ≠ bd) ∧ bd < S.nx
theorem DrawsAt.same {S S' : St} {bd : Nat} {slv : AV} {zs : List Int} {pos : Nat} (h : DrawsAt S bd slv zs pos) (hs : Same S S') : DrawsAt S' bd slv zs pos := ⟨by rw [hs.2 _ h.2.2.2]; exact h.1, h.2.1.same hs, h.2.2.1, Nat.lt_of_lt_of_le h.2.2.2 hs.1⟩
section
variable {h : T AB} {b : Nat} {x y : AV} {o : Bool} {s : Nat}
theorem ld2_0 (hb : h.get b = some (.cells [x, y] o s)) : qLdV (.ptr b (0 + 0)) false 1 h = some x := by
  simp only [qLdV, loadV, bsel_false, load1, cellsAt, hb, osel_some, cellsOfB, nth_eq]; rfl
theorem ld2_1 (hb : h.get b = some (.cells [x, y] o s)) : qLdV (.ptr b (0 + 1)) false 1 h = some y := by
  simp only [qLdV, loadV, bsel_false, load1, cellsAt, hb, osel_some, cellsOfB, nth_eq]; rfl
end
end Go.Ev.Gl
