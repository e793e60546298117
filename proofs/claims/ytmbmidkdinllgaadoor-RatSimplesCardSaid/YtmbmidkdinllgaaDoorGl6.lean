/- Contracts (6): rational numbers, the statements' tools, the law. -/
import Derived.Test.YtmbmidkdinllgaaDoorGl5
open Nat (reduceEqDiff)
set_option maxHeartbeats 4000000
set_option linter.unusedSimpArgs false
set_option linter.unusedVariables false
namespace Go.Ev.Gl
variable {fns : T AFn}

/-! ## The reference's ints and rounding -/
def XSizeI (S : St) (n : Nat) (k : Nat) (A : Act') (S' : St) : Prop :=
  A.inr = false ∧ ∃ (z : Int) (d : List Nat) (u : AV), tmpV 0 A.F = .int .i64 z ∧ z.natAbs = k ∧ -9223372036854775808 ≤ z ∧ z ≤ 9223372036854775807 ∧ tmpV 3 A.F = u ∧ GrIs S S' u d ∧ Same S S' ∧ Small d ∧ val d + B ^ d.length * k = n ∧ (d = [] ∨ B ^ (d.length - 1) ≤ n)
theorem mx_abs (z : Int) : mx z (-z) = (z.natAbs : Int) := by unfold mx; split <;> omega

theorem xsize_spec {S : St} {z : Int} (H : Has fns) (h1 : -9223372036854775808 ≤ z) (h2 : z ≤ 9223372036854775807) : wpf fns (.fn 121 [] []) [.int .i64 z] S fun r S' => NatIs S' r z.natAbs ∧ Same S S' := by
  have hB : B = 1000000000 := rfl
  refine wpf_fn H.f121 (by simp) ?_
  simp only [↓stU, stD, reduceEqDiff, ↓reduceIte]
  refine wsr ?_
  simp only [↓stU, stD, reduceEqDiff, ↓reduceIte]
  refine wsr ?_
  simp only [↓stU, stD, reduceEqDiff, ↓reduceIte]
  refine wpc_seq (wpc_block (wpc_loop (XSizeI S z.natAbs) ?_ z.natAbs _ _ ⟨rfl, z, [], .nilsl, by simp only [↓stU, stD, reduceEqDiff, ↓reduceIte], rfl, h1, h2, by simp only [↓stU, stD, reduceEqDiff, ↓reduceIte], .inl ⟨rfl, rfl⟩, Same.refl S, Small.nil, by simp [val_nil], .inl rfl⟩))
  obtain ⟨n, hn⟩ : ∃ n, z.natAbs = n := ⟨_, rfl⟩
  have hn9 : n ≤ 9223372036854775808 := by omega
  rw [hn]
  clear h1 h2 hn z
  rintro k ⟨F, inr⟩ S' ⟨q0, z, d, u, p0, hk, h1, h2, p3, hg, hS, hsd, hinv, hlow⟩
  simp only at q0 p0 p3
  subst q0
  refine wss ?_
  simp only [↓stU, stD, reduceEqDiff, ↓reduceIte, ↓stV, stW, Nat.reduceAdd, p0]
  by_cases hk0 : 0 < k
  · refine wpc_yes (by simp only [↓stU, stD, reduceEqDiff, ↓reduceIte, ↓stV, stW, Nat.reduceAdd, decide_eq_true (show z ≠ 0 by omega)]) (wpc_skip ?_)
    try simp only [↓stU, stD, reduceEqDiff, ↓reduceIte, ↓stV, stW, Nat.reduceAdd]
    have hrem := bin_rem_t (.p .int) (a := z) (b := 1000000000) (by decide)
    have hquo := bin_quo_t (.p .int) (a := z) (b := 1000000000) (by decide)
    have a1 : (z.tmod 1000000000).natAbs = k % B := by rw [Int.natAbs_tmod, hk]; rfl
    have a2 : (z.tdiv 1000000000).natAbs = k / B := by rw [Int.natAbs_tdiv, hk]; rfl
    have hdm : k / B * B + k % B = k := by rw [Nat.mul_comm]; exact Nat.div_add_mod k B
    have hmod : k % B < 1000000000 := Nat.mod_lt k B_pos
    have hdiv : k / B < k := Nat.div_lt_self hk0 (by decide)
    have hpow : B ^ d.length ≤ n := by
      have : B ^ d.length * 1 ≤ B ^ d.length * k := Nat.mul_le_mul_left _ hk0
      omega
    have hdl : d.length ≤ 100 := by
      rcases Nat.lt_or_ge 100 d.length with h | h
      · have h1 : B ^ 3 ≤ B ^ d.length := Nat.pow_le_pow_right B_pos (by omega)
        have h2 : (18446744073709551615 : Nat) < B ^ 3 := by decide
        omega
      · exact h
    generalize z.tmod 1000000000 = zr at *
    generalize z.tdiv 1000000000 = zq at *
    have w1 : IntKind.i64.wrap (-zr) = -zr := wrap_i64 (by omega) (by omega)
    have w2 : IntKind.i64.wrap zq = zq := wrap_i64 (by omega) (by omega)
    rw [w2] at hquo
    have e1 : (zr.natAbs : Int) = ((k % B : Nat) : Int) := by rw [a1]
    have w3 : IntKind.u32.wrap ((k % B : Nat) : Int) = ((k % B : Nat) : Int) := wrap_u32 (by omega) (by omega)
    generalize k % B = w at *
    generalize k / B = k' at *
    refine wpc_block (wpc_seq (wpc_reg ?_))
    simp only [↓stU, stD, reduceEqDiff, ↓reduceIte, ↓stV, stW, Nat.reduceAdd, p0, hrem]
    obtain ⟨v', S2, happ, hg2, hS2⟩ := hg.app (w := w) (bytes := 4) hS (by unfold room; omega) (by unfold room; omega)
    refine wsr ?_
    simp only [↓stU, stD, reduceEqDiff, ↓reduceIte, ↓stV, stW, Nat.reduceAdd, p3, un_neg_i, w1, evQ_mm, valsOf_cons, valsOf_nil, mm_cons, mm_int, mm_nil, mx_abs, e1, w3]
    rw [evA_one (k := .u32) (n := (w : Int)) (by simp only [↓stU, stD, reduceEqDiff, ↓reduceIte, ↓stV, stW, Nat.reduceAdd])]
    try simp only [↓stU, stD, reduceEqDiff, ↓reduceIte, ↓stV, stW, Nat.reduceAdd]
    refine wpo_x (fun call => by simp only [↓stU, stD, reduceEqDiff, ↓reduceIte, ↓stV, stW, Nat.reduceAdd, evX_app, p3]; exact happ) ?_
    try simp only [↓stU, stD, reduceEqDiff, ↓reduceIte, ↓stV, stW, Nat.reduceAdd]
    refine wpc_reg ?_
    simp only [↓stU, stD, reduceEqDiff, ↓reduceIte, ↓stV, stW, Nat.reduceAdd, p0, hquo]
    refine ⟨k', hdiv, rfl, zq, d ++ [w], v', by simp only [↓stU, stD, reduceEqDiff, ↓reduceIte, ↓stV, stW, Nat.reduceAdd], a2, by omega, by omega, by simp only [↓stU, stD, reduceEqDiff, ↓reduceIte, ↓stV, stW, Nat.reduceAdd], hg2, hS2, Small.append.2 ⟨hsd, small_one hmod⟩, ?_, .inr ?_⟩
    · rw [val_snoc, List.length_append, List.length_singleton, Nat.pow_succ, ← hinv]
      generalize B ^ d.length = P
      have : P * B * k' + P * w = P * k := by rw [Nat.mul_assoc, ← Nat.mul_add, Nat.mul_comm B k', hdm]
      omega
    · rw [show (d ++ [w]).length - 1 = d.length by simp]; exact hpow
  · have hk1 : k = 0 := by omega
    refine wpc_non (by simp only [↓stU, stD, reduceEqDiff, ↓reduceIte, ↓stV, stW, Nat.reduceAdd, decide_eq_false (show ¬ z ≠ 0 by omega)]) (wpc_exit ?_)
    try simp only [↓stU, stD, reduceEqDiff, ↓reduceIte, ↓stV, stW, Nat.reduceAdd]
    refine wsr ?_
    simp only [↓stU, stD, reduceEqDiff, ↓reduceIte, ↓stV, stW, Nat.reduceAdd, p3]
    refine wpc_ret ?_
    simp only [↓stU, stD, reduceEqDiff, ↓reduceIte, ↓stV, stW, Nat.reduceAdd]
    rw [hk1, Nat.mul_zero, Nat.add_zero] at hinv
    exact ⟨⟨d, hg.limbs, norm_of_low hsd (by rw [hinv]; exact hlow), hinv⟩, hS⟩

theorem one_nat {S : St} {b : Nat} (h : S.h.get b = some (.cells [.int .u32 1] false 0)) (hb : b < S.nx) : NatIs S (.sl b 0 1 1 false) 1 := ⟨[1], limbs_own (l := [1]) (o := false) (sz := 0) h hb rfl (Nat.le_refl _), norm_one, val_one⟩
theorem small_pow {n : Nat} (h : n ≤ 9223372036854775808) : n < B ^ 3 := Nat.lt_of_le_of_lt h (by decide)

theorem xwhole_spec {S : St} {z : Int} (H : Has fns) (h1 : -9223372036854775808 ≤ z) (h2 : z ≤ 9223372036854775807) : wpf fns (.fn 89 [] []) [.int .i64 z] S fun r S' => RatIs S' r (z : Rat) ∧ Same S S' := by
  refine wpf_fn H.f89 (by simp) ?_
  simp only [↓stU, stD, reduceEqDiff, ↓reduceIte]
  refine wsr ?_
  refine wpo_alloc ?_
  intro S1 s1 n1 c1
  simp only [↓stU, stD, reduceEqDiff, ↓reduceIte]
  refine wsr ?_
  simp only [↓stU, stD, reduceEqDiff, ↓reduceIte]
  refine wpo_call ?_
  try simp only [↓stU, stD, reduceEqDiff, ↓reduceIte]
  refine wpf_mono (xsize_spec H h1 h2) ?_
  rintro zv S2 ⟨hz, s2⟩
  try simp only [↓stU, stD, reduceEqDiff, ↓reduceIte]
  refine wpo_al (evA_one (k := .u32) (n := (1 : Int)) (by simp only [↓stU, stD, reduceEqDiff, ↓reduceIte])) ?_
  intro S3 s3 n3 c3
  try simp only [↓stU, stD, reduceEqDiff, ↓reduceIte]
  refine wpo_call ?_
  try simp only [↓stU, stD, reduceEqDiff, ↓reduceIte]
  refine wpf_mono (xlowest_spec H (hz.same s3) (one_nat c3 (by omega)) (small_pow (by omega)) (by decide) (by decide) (by decide)) ?_
  rintro v S4 ⟨hv, s4⟩
  obtain ⟨v0, v1, v2, rfl⟩ := hv.cells
  have s14 := s2.trans (s3.trans s4)
  have c4 : S4.h.get S.nx = some (.cells [.bool false, .nilsl, .nilsl] false 0) := by rw [s14.2 _ (by omega)]; exact c1
  try simp only [↓stU, stD, reduceEqDiff, ↓reduceIte]
  refine wpo_st (b := S.nx) (by simp only [↓stU, stD, reduceEqDiff, ↓reduceIte]) (by simp only [↓stU, stD, reduceEqDiff, ↓reduceIte, cells_agg]; rfl) c4 rfl rfl ?_
  intro S5 s5 n5 c5
  simp only [↓stU, stD, reduceEqDiff, ↓reduceIte]
  refine wpc_ret ?_
  simp only [↓stU, stD, reduceEqDiff, ↓reduceIte, results_cell, ld3 c5]
  refine ⟨?_, s5.same (s1.trans s14) (Nat.le_refl _)⟩
  have e : mkRat (sg (decide (z < 0)) z.natAbs) 1 = (z : Rat) := by
    rw [rat_int]
    congr 1
    by_cases h : z < 0
    · rw [decide_eq_true h]; simp [sg]; omega
    · rw [decide_eq_false h]; simp [sg]; omega
  rw [← e]
  exact hv.st c4 rfl s5 c5

theorem dn_bnd {neg : Bool} {p : Rat} {K : Nat} (h : Bnd K p) : dn neg p.num.natAbs p.den < B ^ (K + 1) := dn_lt h.1

/-- rounding down -/
theorem xdown_spec {S : St} {a : AV} {p : Rat} {K : Nat} (H : Has fns) (ha : RatIs S a p) (hp : Bnd K p) (hK : K ≤ 9000) : wpf fns (.fn 85 [] []) [a] S fun r S' => RatIs S' r (flr p : Rat) ∧ Same S S' := by
  obtain ⟨nv, dv, rfl, h1, h2⟩ := ha
  have hd0 : 0 < p.den := by have := p.den_nz; omega
  refine wpf_fn H.f85 (by simp) ?_
  simp only [↓stU, stD, reduceEqDiff, ↓reduceIte]
  refine wsr ?_
  refine wpo_box (by simp only [↓stU, stD, reduceEqDiff, ↓reduceIte, cells_agg]; rfl) ?_
  intro S1 s1 n1 c1
  refine wpo_alloc ?_
  intro S2 s2 n2 c2
  simp only [↓stU, stD, reduceEqDiff, ↓reduceIte]
  have g1 : S2.h.get S.nx = some (.cells [.bool (decide (p.num < 0)), nv, dv] false 0) := by rw [s2.2 _ (by omega)]; exact c1
  have sS := s1.trans s2
  refine wsr ?_
  simp only [↓stU, stD, reduceEqDiff, ↓reduceIte, evQ_faddr, faddr_ptr, ld3_1 g1, ld3_2 g1]
  refine wpo_call ?_
  try simp only [↓stU, stD, reduceEqDiff, ↓reduceIte]
  refine wpf_mono (xover_spec H (h1.same sS) (h2.same sS) hp.1 (by omega) hd0) ?_
  rintro _ S3 ⟨qv, rv, rfl, hq, hr, s3⟩
  simp only [↓stU, stD, reduceEqDiff, ↓reduceIte, ex0, ex1]
  have g3 : S3.h.get S.nx = some (.cells [.bool (decide (p.num < 0)), nv, dv] false 0) := by rw [s3.2 _ (by omega)]; exact g1
  obtain ⟨k, hk, hk0⟩ := lenpos hr
  have hl3 := s3.1
  refine wpc_seq (wpc_mono (Q := fun o A' S4 => o = .normal ∧ A'.inr = false ∧ tmpV 1 A'.F = .ptr S.nx 0 ∧ tmpV 2 A'.F = .ptr S1.nx 0 ∧ Same S3 S4 ∧ NatIs S4 (tmpV 3 A'.F) (dn (decide (p.num < 0)) p.num.natAbs p.den)) (wpc_seq (wpc_reg ?_)) ?_)
  · unfold dn
    by_cases hneg : p.num < 0
    · rw [decide_eq_true hneg] at g3 ⊢
      by_cases hr0 : p.num.natAbs % p.den = 0
      · simp only [↓stU, stD, reduceEqDiff, ↓reduceIte, evQ_faddr, faddr_ptr, ld3_0 g3, hk, decide_eq_false (show ¬ (0 : Int) < (k : Int) by omega)]
        refine wpc_non (by simp only [↓stU, stD, reduceEqDiff, ↓reduceIte]) (wpc_skip ?_)
        simp only [↓stU, stD, reduceEqDiff, ↓reduceIte]
        first | rw [if_neg (fun h => h hr0)] | rw [if_neg (fun h => h.2 hr0)]
        exact ⟨Same.refl _, hq⟩
      · simp only [↓stU, stD, reduceEqDiff, ↓reduceIte, evQ_faddr, faddr_ptr, ld3_0 g3, hk, decide_eq_true (show (0 : Int) < (k : Int) by omega)]
        refine wpc_yes (by simp only [↓stU, stD, reduceEqDiff, ↓reduceIte]) (wpc_reg ?_)
        simp only [↓stU, stD, reduceEqDiff, ↓reduceIte]
        refine wpo_al (evA_one (k := .u32) (n := (1 : Int)) (by simp only [↓stU, stD, reduceEqDiff, ↓reduceIte])) ?_
        intro S4 s4 n4 c4
        try simp only [↓stU, stD, reduceEqDiff, ↓reduceIte]
        refine wpo_call ?_
        try simp only [↓stU, stD, reduceEqDiff, ↓reduceIte]
        have hqB : p.num.natAbs / p.den < B ^ K := Nat.lt_of_le_of_lt (Nat.div_le_self ..) hp.1
        refine wpf_mono (xplus_spec H (hq.same s4) (one_nat c4 (by omega)) (Fits.of hqB (by omega)) (half_lt (by decide)).fits) ?_
        rintro v S5 ⟨hv, s5⟩
        try simp only [↓stU, stD, reduceEqDiff, ↓reduceIte]
        first | rw [if_pos hr0] | rw [if_pos ⟨trivial, hr0⟩] | rw [if_pos ⟨rfl, hr0⟩]
        exact ⟨s4.trans s5, hv⟩
    · rw [decide_eq_false hneg] at g3 ⊢
      simp only [↓stU, stD, reduceEqDiff, ↓reduceIte, evQ_faddr, faddr_ptr, ld3_0 g3, hk]
      refine wpc_non (by simp only [↓stU, stD, reduceEqDiff, ↓reduceIte]) (wpc_skip ?_)
      simp only [↓stU, stD, reduceEqDiff, ↓reduceIte]
      first | rw [if_neg (fun h => by cases h.1)] | skip
      exact ⟨Same.refl _, hq⟩
  rintro o ⟨F, inr⟩ S4 ⟨rfl, q0, p1, p2, s4, hN⟩
  simp only at q0 p1 p2 hN
  subst q0
  try simp only [↓stU, stD, reduceEqDiff, ↓reduceIte]
  have g4 : S4.h.get S.nx = some (.cells [.bool (decide (p.num < 0)), nv, dv] false 0) := by rw [s4.2 _ (by omega)]; exact g3
  have c4 : S4.h.get S1.nx = some (.cells [.bool false, .nilsl, .nilsl] false 0) := by rw [s4.2 _ (by omega), s3.2 _ (by omega)]; exact c2
  have l4 := s4.1
  refine wsr ?_
  simp only [↓stU, stD, reduceEqDiff, ↓reduceIte, p1, p2, evQ_faddr, faddr_ptr, ld3_0 g4]
  refine wpo_al (evA_one (k := .u32) (n := (1 : Int)) (by simp only [↓stU, stD, reduceEqDiff, ↓reduceIte])) ?_
  intro S5 s5 n5 c5
  try simp only [↓stU, stD, reduceEqDiff, ↓reduceIte]
  refine wpo_call ?_
  try simp only [↓stU, stD, reduceEqDiff, ↓reduceIte]
  refine wpf_mono (xlowest_spec H (hN.same s5) (one_nat c5 (by omega)) (dn_bnd hp) (Nat.one_lt_pow (by omega) (by decide)) (by omega) (by decide)) ?_
  rintro v S6 ⟨hv, s6⟩
  obtain ⟨v0, v1, v2, rfl⟩ := hv.cells
  have c6 : S6.h.get S1.nx = some (.cells [.bool false, .nilsl, .nilsl] false 0) := by rw [s6.2 _ (by omega), s5.2 _ (by omega)]; exact c4
  try simp only [↓stU, stD, reduceEqDiff, ↓reduceIte]
  refine wpo_st (b := S1.nx) (by simp only [↓stU, stD, reduceEqDiff, ↓reduceIte, p2]) (by simp only [↓stU, stD, reduceEqDiff, ↓reduceIte, cells_agg]; rfl) c6 rfl rfl ?_
  intro S7 s7 n7 c7
  simp only [↓stU, stD, reduceEqDiff, ↓reduceIte]
  refine wpc_ret ?_
  simp only [↓stU, stD, reduceEqDiff, ↓reduceIte, results_cell, p2, ld3 c7]
  refine ⟨?_, s7.same (sS.trans (s3.trans (s4.trans (s5.trans s6)))) (by omega)⟩
  rw [← floor_sg, ← rat_int]
  exact hv.st c6 rfl s7 c7
end Go.Ev.Gl

namespace Go.Ev.Gl
variable {fns : T AFn}

/-! ## The simplest number: plain facts -/
theorem best_back {p q s : Rat} (hp : 0 < p.num) (hpq : p ≤ q) (h : BestR p q s) : BestN p.num.natAbs p.den q.num.natAbs q.den s.num.natAbs s.den := by
  obtain ⟨h1, h2, h3⟩ := h
  have hs := pos_le hp h1
  have hq := pos_le hp hpq
  refine ⟨(le_nat hp hs).1 h1, (le_nat hs hq).1 h2, by have := s.den_nz; omega, s.reduced, fun x y hy k1 k2 => ?_⟩
  have hg : 0 < Nat.gcd x y := Nat.gcd_pos_of_pos_right _ hy
  obtain ⟨e1, e2, e3⟩ := lowest (neg := false) (n := x) (d := y) rfl (by omega)
  obtain ⟨f1, f2⟩ := rat_mk (n := sg false (x / Nat.gcd x y)) (d := y / Nat.gcd x y) e3 (by rw [sg_natAbs]; exact e2)
  have hx' : x = Nat.gcd x y * (x / Nat.gcd x y) := (Nat.mul_div_cancel' (Nat.gcd_dvd_left x y)).symm
  have hy' : y = Nat.gcd x y * (y / Nat.gcd x y) := (Nat.mul_div_cancel' (Nat.gcd_dvd_right x y)).symm
  generalize hgx : Nat.gcd x y = g at *
  generalize x / g = x' at *
  generalize y / g = y' at *
  clear e1 hgx
  subst hx'
  subst hy'
  have hxp : 0 < x' := by
    rcases Nat.eq_zero_or_pos x' with h | h
    · subst h
      rw [Nat.mul_zero, Nat.zero_mul] at k1
      have : 0 < p.num.natAbs * (g * y') := Nat.mul_pos (by omega) hy
      omega
    · exact h
  have fN : (mkRat (sg false x') y').num.natAbs = x' := by rw [f1, sg_natAbs]
  have fP : 0 < (mkRat (sg false x') y').num := by rw [f1]; simp [sg]; omega
  have j1 : p.num.natAbs * y' ≤ x' * p.den := by
    have : g * (p.num.natAbs * y') ≤ g * (x' * p.den) := by
      calc g * (p.num.natAbs * y') = p.num.natAbs * (g * y') := by grind
        _ ≤ g * x' * p.den := k1
        _ = g * (x' * p.den) := by grind
    exact Nat.le_of_mul_le_mul_left this hg
  have j2 : x' * q.den ≤ q.num.natAbs * y' := by
    have : g * (x' * q.den) ≤ g * (q.num.natAbs * y') := by
      calc g * (x' * q.den) = g * x' * q.den := by grind
        _ ≤ q.num.natAbs * (g * y') := k2
        _ = g * (q.num.natAbs * y') := by grind
    exact Nat.le_of_mul_le_mul_left this hg
  obtain ⟨r1, r2⟩ := h3 (mkRat (sg false x') y') ((le_nat hp fP).2 (by rw [fN, f2]; exact j1)) ((le_nat fP hq).2 (by rw [fN, f2]; exact j2))
  rw [f2] at r1
  rw [fN] at r2
  have g1 : y' * 1 ≤ y' * g := Nat.mul_le_mul_left _ hg
  have g2 : x' * 1 ≤ x' * g := Nat.mul_le_mul_left _ hg
  rw [Nat.mul_comm g, Nat.mul_comm g]
  omega

theorem rat_np {x : Rat} (h : x.num ≤ 0) : x ≤ 0 := by rw [le_num]; show x.num * 1 ≤ 0 * _; rw [Int.zero_mul, Int.mul_one]; exact h
theorem rat_nn {x : Rat} (h : 0 ≤ x.num) : 0 ≤ x := by rw [le_num]; show 0 * _ ≤ x.num * 1; rw [Int.zero_mul, Int.mul_one]; exact h
theorem best_one {p q s s' : Rat} (h : BestR p q s) (h' : BestR p q s') : s = s' := by
  obtain ⟨a1, a2, a3⟩ := h
  obtain ⟨b1, b2, b3⟩ := h'
  obtain ⟨x1, x2⟩ := a3 s' b1 b2
  obtain ⟨y1, y2⟩ := b3 s a1 a2
  have hd : s.den = s'.den := by omega
  have hn : s.num.natAbs = s'.num.natAbs := by omega
  have hz : s.num = s'.num := by
    by_cases hs : s.num = s'.num
    · exact hs
    · exfalso
      have hneg : s.num = - s'.num := by omega
      have hp0 : p ≤ 0 := by
        rcases Int.lt_or_le s.num 0 with h | h
        · exact Rat.le_trans a1 (rat_np (by omega))
        · exact Rat.le_trans b1 (rat_np (by omega))
      have hq0 : 0 ≤ q := by
        rcases Int.lt_or_le s.num 0 with h | h
        · exact Rat.le_trans (rat_nn (by omega)) b2
        · exact Rat.le_trans (rat_nn (by omega)) a2
      have := (a3 0 hp0 hq0).2
      rw [show (0 : Rat).num.natAbs = 0 from rfl] at this
      omega
  rw [num_eq, hz, hd]

theorem whole_best {p q : Rat} (hp : 0 < p.num) (hpq : p ≤ q) (hd : p.den = 1) : BestR p q p := by
  refine ⟨Rat.le_refl, hpq, fun x k1 k2 => ?_⟩
  have hx := pos_le hp k1
  have h1 := (le_nat hp hx).1 k1
  rw [hd, Nat.mul_one] at h1
  have hx0 := x.den_nz
  have : p.num.natAbs * 1 ≤ p.num.natAbs * x.den := Nat.mul_le_mul_left _ (by omega)
  exact ⟨by rw [hd]; omega, by omega⟩

theorem int_num (z : Int) : ((z : Rat)).num = z ∧ ((z : Rat)).den = 1 := ⟨rfl, rfl⟩
theorem flr_le (p : Rat) : (flr p : Rat) ≤ p ∧ p < ((flr p + 1 : Int) : Rat) := by
  have hd := den_pos p
  have e1 := Int.mul_ediv_add_emod p.num p.den
  have e2 := Int.emod_nonneg p.num (show (p.den : Int) ≠ 0 by omega)
  have e3 := Int.emod_lt_of_pos p.num hd
  constructor
  · rw [le_num, (int_num _).1, (int_num _).2]
    unfold flr
    rw [Int.mul_comm] at e1
    omega
  · rw [num_lt, (int_num _).1, (int_num _).2]
    unfold flr
    rw [Int.mul_comm] at e1
    rw [Int.add_mul]
    omega
theorem next_best {p q : Rat} (hp : 0 < p.num) (hne : (flr p : Rat) ≠ p) (hq : ((flr p : Rat) + 1) ≤ q) : BestR p q ((flr p : Rat) + 1) := by
  have e : (flr p : Rat) + 1 = ((flr p + 1 : Int) : Rat) := by simp [Rat.intCast_add]
  obtain ⟨f1, f2⟩ := flr_le p
  have hf0 : 0 ≤ flr p := Int.ediv_nonneg (by omega) (by omega)
  rw [e] at hq ⊢
  refine ⟨Rat.le_of_lt f2, hq, fun x k1 k2 => ?_⟩
  have hx := pos_le hp k1
  have hlt : (flr p : Rat) < x := by grind
  rw [num_lt, (int_num _).1, (int_num _).2] at hlt
  rw [(int_num _).1, (int_num _).2]
  have hx0 := x.den_nz
  have : flr p * 1 ≤ flr p * x.den := Int.mul_le_mul_of_nonneg_left (by omega) hf0
  constructor <;> omega

theorem sub_parts {p : Rat} {F r : Nat} (hp : 0 < p.num) (h : p.num.natAbs = p.den * F + r) : (p + -((F : Int) : Rat)).num = r ∧ (p + -((F : Int) : Rat)).den = p.den := by
  have e : p + -((F : Int) : Rat) = mkRat r p.den := by
    have h1 : p = mkRat p.num p.den := (Rat.mkRat_self p).symm
    have h2 : -((F : Int) : Rat) = mkRat (-(F : Int)) 1 := by rw [rat_int]; simp [Rat.intCast_neg]
    rw [h2]
    conv => lhs; rw [h1]
    rw [Rat.mkRat_add_mkRat _ _ p.den_nz (by decide)]
    congr 1
    · have : p.num = ((p.num.natAbs : Nat) : Int) := by omega
      rw [this, h]
      simp
      grind
    · omega
  have hc : Nat.Coprime (r : Int).natAbs p.den := by
    have := p.reduced
    rw [h] at this
    simp only [Int.natAbs_natCast]
    rw [Nat.add_comm] at this
    unfold Nat.Coprime at this ⊢
    rwa [Nat.gcd_add_mul_left_left] at this
  rw [e]
  exact rat_mk p.den_nz hc
end Go.Ev.Gl

namespace Go.Ev.Gl
variable {fns : T AFn}

/-! ## The reference's simplest number -/
theorem runD_new {W : Nat → Prop} {h0 : T AB} {base i : Nat} {F : Fr} {S : St} {last : Option Nat} {Q : Fr → St → List Pend → Prop} {d vt ty m' : Nat} {v0 v1 v2 : AV} (hm : inMask last m' = true) (ht : Nat.testBit m' i = true) (hd : vt ≠ d) (hv : tmpV vt F = .agg [v0, v1, v2])
    (h : ∀ S1, SameBut (base + i) S S1 → S1.nx = S.nx → S1.h.get (base + i) = some (.cells [v0, v1, v2] false 0) → Q (putF (some d) F (.ptr (base + i) 0)) S1 []) :
    contA fns W h0 base (evA (.alloc ty [.bool false, .nilsl, .nilsl]) F (base + i)) (some d) [⟨none, .x (.st 3 (.t d) (.t vt)), none, m'⟩] i F S [] last Q := by
  simp only [↓stU, stD, reduceEqDiff, ↓reduceIte, ↓stV, stW, Nat.reduceAdd, evA_alloc]
  have hb4 : (S.h.set (base + i) (some (AB.cells [.bool false, .nilsl, .nilsl] false 0))).get (base + i) = some (.cells [.bool false, .nilsl, .nilsl] false 0) := by rw [T.get_set, if_pos rfl]
  refine runD_st (S1 := ⟨(S.h.set (base + i) (some (.cells [.bool false, .nilsl, .nilsl] false 0))).set (base + i) (some (.cells [v0, v1, v2] false 0)), S.nx⟩) hm ?_ ?_ ?_
  · rw [flush_one ht]
    simp only [val_t, tmpV_putF, if_neg hd, if_pos, hv, cells_agg, osel_some]
    exact xst_all (S := ⟨S.h.set (base + i) (some (.cells [.bool false, .nilsl, .nilsl] false 0)), S.nx⟩) (cs' := [v0, v1, v2]) (n := 3) hb4 rfl rfl
  · rw [flush_one ht]
    exact ⟨Nat.le_refl _, fun c hc _ => by simp only; rw [T.get_set, if_neg (by omega)]⟩
  rw [flush_one ht]
  simp only [↓stU, stD, reduceEqDiff, ↓reduceIte, ↓stV, stW, Nat.reduceAdd]
  refine h _ (((SameBut.refl _ S).put _).put _) rfl ?_
  simp only
  rw [T.get_set, if_pos rfl]

theorem one_z : ((1 : Int) : Rat) = 1 := rfl
theorem inv_parts {x : Rat} (h : 0 < x.num) : (((1 : Int) : Rat) * x⁻¹).num = x.den ∧ ((((1 : Int) : Rat) * x⁻¹).den : Int) = x.num := by
  have e := over_eq (p := ((1 : Int) : Rat)) (q := x) (by omega)
  rw [← e, show (((1 : Int) : Rat)).num = 1 from rfl, show (((1 : Int) : Rat)).den = 1 from rfl]
  have hd := x.den_nz
  rw [show (decide ((1 : Int) < 0) != decide (x.num < 0)) = false by rw [decide_eq_false (by omega), decide_eq_false (by omega)]; rfl, Nat.one_mul, show (1 : Int).natAbs * x.den = x.den by simp]
  obtain ⟨h1, h2⟩ := rat_mk (n := sg false x.den) (d := x.num.natAbs) (by omega) (by rw [sg_natAbs]; exact Nat.Coprime.symm x.reduced)
  rw [h1, h2]
  exact ⟨by simp [sg], by omega⟩

/-- one step of the recursion, plain -/
theorem simple_step {p q s : Rat} {F : Nat} (hp : 0 < p.num) (hpq : p ≤ q) (hF : flr p = (F : Int)) (hne : (flr p : Rat) ≠ p) (hlt : ¬ (flr p : Rat) + 1 ≤ q) :
    0 < (q + -(flr p : Rat)).num ∧ 0 < (p + -(flr p : Rat)).num ∧ (((1 : Int) : Rat) * (q + -(flr p : Rat))⁻¹).den < q.den ∧ (((1 : Int) : Rat) * (p + -(flr p : Rat))⁻¹).den < p.den ∧ (((1 : Int) : Rat) * (q + -(flr p : Rat))⁻¹).num = q.den ∧ (((1 : Int) : Rat) * (p + -(flr p : Rat))⁻¹).num = p.den ∧
    ((1 : Int) : Rat) * (q + -(flr p : Rat))⁻¹ ≤ ((1 : Int) : Rat) * (p + -(flr p : Rat))⁻¹ ∧ (BestR (((1 : Int) : Rat) * (q + -(flr p : Rat))⁻¹) (((1 : Int) : Rat) * (p + -(flr p : Rat))⁻¹) s → 0 < s.num ∧ BestR p q ((flr p : Rat) + ((1 : Int) : Rat) * s⁻¹)) := by
  have hq := pos_le hp hpq
  have dp := p.den_nz
  have dq := q.den_nz
  obtain ⟨f1, f2⟩ := flr_le p
  have hlt2 : (flr p : Rat) < p := by grind
  have hqlt : q < ((flr p + 1 : Int) : Rat) := by
    have e : (flr p : Rat) + 1 = ((flr p + 1 : Int) : Rat) := by simp [Rat.intCast_add]
    rw [← e]; grind
  rw [hF] at hlt2 hqlt f1 ⊢
  rw [num_lt, (int_num _).1, (int_num _).2] at hlt2 hqlt
  -- remainders
  obtain ⟨r, hr⟩ : ∃ r, p.num.natAbs = p.den * F + r := ⟨p.num.natAbs - p.den * F, by
    have : ((p.den * F : Nat) : Int) < p.num := by push_cast; rw [Int.mul_comm]; omega
    omega⟩
  have hle : (F : Int) * q.den ≤ q.num := by
    have h1 : ((F : Int) : Rat) ≤ q := Rat.le_trans f1 hpq
    rw [le_num, (int_num _).1, (int_num _).2] at h1
    omega
  obtain ⟨t, ht⟩ : ∃ t, q.num.natAbs = q.den * F + t := ⟨q.num.natAbs - q.den * F, by
    have : ((q.den * F : Nat) : Int) ≤ q.num := by push_cast; rw [Int.mul_comm]; omega
    omega⟩
  obtain ⟨a1, a2⟩ := sub_parts hp hr
  obtain ⟨b1, b2⟩ := sub_parts hq ht
  have ep : (p.num : Int) = ((p.den * F + r : Nat) : Int) := by omega
  have eq : (q.num : Int) = ((q.den * F + t : Nat) : Int) := by omega
  have hr0 : 0 < r := by
    rw [ep] at hlt2; push_cast at hlt2
    have : (F : Int) * p.den = p.den * F := Int.mul_comm ..
    omega
  have hrb : r < p.den := by
    have h1 := f2
    rw [hF, num_lt, (int_num _).1, (int_num _).2, ep] at h1
    push_cast at h1
    have e0 : ((F : Int) + 1) * p.den = F * p.den + p.den := by rw [Int.add_mul, Int.one_mul]
    have : (F : Int) * p.den = p.den * F := Int.mul_comm ..
    omega
  have htb : t < q.den := by
    rw [eq] at hqlt; push_cast at hqlt
    have e0 : ((F : Int) + 1) * q.den = F * q.den + q.den := by rw [Int.add_mul, Int.one_mul]
    have : (F : Int) * q.den = q.den * F := Int.mul_comm ..
    omega
  have ht0 : 0 < t := by
    rcases Nat.eq_zero_or_pos t with h | h
    · exfalso
      have k1 := (le_num p q).1 hpq
      rw [ep, eq, h] at k1
      push_cast at k1
      have : (0 : Int) < (r : Int) * q.den := Int.mul_pos (by omega) (by omega)
      have e1 : ((p.den : Int) * F + r) * q.den = (p.den : Int) * F * q.den + r * q.den := Int.add_mul ..
      have e2 : ((q.den : Int) * F + 0) * p.den = (p.den : Int) * F * q.den := by grind
      rw [e1, e2] at k1
      omega
    · exact h
  have u1 : 0 < (q + -((F : Int) : Rat)).num := by rw [b1]; omega
  have u2 : 0 < (p + -((F : Int) : Rat)).num := by rw [a1]; omega
  obtain ⟨i1, i2⟩ := inv_parts u1
  obtain ⟨i3, i4⟩ := inv_parts u2
  rw [b1] at i2
  rw [b2] at i1
  rw [a1] at i4
  rw [a2] at i3
  have hle2 : ((1 : Int) : Rat) * (q + -((F : Int) : Rat))⁻¹ ≤ ((1 : Int) : Rat) * (p + -((F : Int) : Rat))⁻¹ := by
    rw [le_num, i1, i3]
    have k1 := (le_num p q).1 hpq
    rw [ep, eq] at k1
    push_cast at k1
    rw [i2, i4]
    have e1 : ((p.den : Int) * F + r) * q.den = (p.den : Int) * F * q.den + r * q.den := Int.add_mul ..
    have e2 : ((q.den : Int) * F + t) * p.den = (p.den : Int) * F * q.den + t * p.den := by grind
    rw [e1, e2] at k1
    have e3 : (q.den : Int) * r = r * q.den := Int.mul_comm ..
    have e4 : (p.den : Int) * t = t * p.den := Int.mul_comm ..
    omega
  refine ⟨u1, u2, by omega, by omega, i1, i3, hle2, fun hs => ?_⟩
  have v1 : 0 < (((1 : Int) : Rat) * (q + -((F : Int) : Rat))⁻¹).num := by rw [i1]; omega
  have hb := best_back v1 hle2 hs
  have hs0 := pos_le v1 hs.1
  rw [i1, i3, show (((1 : Int) : Rat) * (q + -((F : Int) : Rat))⁻¹).den = t by omega, show (((1 : Int) : Rat) * (p + -((F : Int) : Rat))⁻¹).den = r by omega, Int.natAbs_natCast, Int.natAbs_natCast] at hb
  obtain ⟨k1, k2⟩ := best_step hr hr0 ht (by omega) (by omega) hb
  obtain ⟨m1, m2, m3⟩ := best_pos hp hpq k1
  refine ⟨hs0, ?_⟩
  have e : ((F : Int) : Rat) + ((1 : Int) : Rat) * s⁻¹ = mkRat ((F * s.num.natAbs + s.den : Nat) : Int) s.num.natAbs := by
    rw [one_z, Rat.one_mul, ← inv_rat (by omega), decide_eq_false (by omega), ← rat_int, Rat.mkRat_add_mkRat _ _ (by decide) (by omega)]
    congr 1
    · simp [sg]
    · omega
  rw [e]
  exact m1
end Go.Ev.Gl

namespace Go.Ev.Gl
variable {fns : T AFn}

theorem bnd_of {K : Nat} {p x : Rat} (h : Bnd K p) (h1 : x.num = p.den) (h2 : x.den < p.den) : Bnd K x := ⟨by rw [h1, Int.natAbs_natCast]; exact h.2, Nat.lt_trans h2 h.2⟩
theorem one_bnd {K : Nat} (h : 0 < K) : Bnd K ((1 : Int) : Rat) := ⟨Nat.one_lt_pow (by omega) (by decide), Nat.one_lt_pow (by omega) (by decide)⟩
theorem flr_bd {K : Nat} {p : Rat} (h : Bnd K p) : Bnd (K + 1) (flr p : Rat) := by
  refine ⟨?_, Nat.one_lt_pow (by omega) (by decide)⟩
  rw [(int_num _).1, ← floor_sg, sg_natAbs]
  exact dn_lt h.1
theorem cmpR_zero {p q : Rat} : cmpR p q = 0 ↔ p = q := by
  unfold cmpR
  by_cases h1 : p < q
  · rw [if_pos h1]
    constructor
    · intro h; cases h
    · intro h; subst h; exact absurd h1 (by rw [num_lt]; omega)
  · rw [if_neg h1]
    by_cases h2 : p = q
    · rw [if_pos h2]; simp [h2]
    · rw [if_neg h2]; simp [h2]
theorem cmpR_le {p q : Rat} : cmpR p q ≤ 0 ↔ p ≤ q := by
  rw [le_num]
  unfold cmpR
  by_cases h1 : p < q
  · rw [if_pos h1]; rw [num_lt] at h1; omega
  · rw [if_neg h1]
    by_cases h2 : p = q
    · rw [if_pos h2]; subst h2; omega
    · rw [if_neg h2]; rw [num_lt] at h1; rw [num_eq] at h2; omega

/-- what holds between the calls of 'simple' -/
structure SimI (S : St) (ca cb : List AV) (X : St) : Prop where
  same : Same S X
  fresh : Fresh X
  g2 : X.h.get S.nx = some (.cells ca false 0)
  g3 : X.h.get (S.nx + 1) = some (.cells cb false 0)
  g4 : X.h.get (S.nx + 2) = some (.cells [.bool false, .nilsl, .nilsl] false 0)
  l4 : S.nx + 2 < X.nx
theorem SimI.step {S X Y : St} {ca cb : List AV} (h : SimI S ca cb X) (hs : Same X Y) (hf : Frs X Y) : SimI S ca cb Y := by
  have e := h.l4
  exact ⟨h.same.trans hs, hf.1 h.fresh, by rw [hs.2 _ (by omega)]; exact h.g2, by rw [hs.2 _ (by omega)]; exact h.g3, by rw [hs.2 _ (by omega)]; exact h.g4, Nat.lt_of_lt_of_le e hs.1⟩
theorem SimI.put {S X Y : St} {ca cb : List AV} (h : SimI S ca cb X) {b : Nat} (hb : S.nx + 2 < b) (hs : SameBut b X Y) (hf : Frs X Y) : SimI S ca cb Y := by
  have e := h.l4
  exact ⟨hs.same h.same (by omega), hf.1 h.fresh, by rw [hs.2 _ (by omega) (by omega)]; exact h.g2, by rw [hs.2 _ (by omega) (by omega)]; exact h.g3, by rw [hs.2 _ (by omega) (by omega)]; exact h.g4, Nat.lt_of_lt_of_le e hs.1⟩

set_option maxRecDepth 100000 in
theorem xsimple_spec (H : Has fns) {K : Nat} (hK : K ≤ 2000) (hK0 : 0 < K) : ∀ (N : Nat) {S : St} {a b : AV} {p q : Rat}, 2 * (p.den + q.den) + (if q.num < 0 then 1 else 0) ≤ N → Fresh S → RatIs S a p → RatIs S b q → Bnd K p → Bnd K q → p ≤ q →
    wpf fns (.fn 59 [] []) [a, b] S fun r S' => ∃ s, RatIs S' r s ∧ BestR p q s ∧ Same S S'
  | 0, _, _, _, p, _, hN, _, _, _, _, _, _ => by have := p.den_nz; omega
  | N + 1, S, a, b, p, q, hN, hF, ha, hb, hp, hq, hpq => by
    obtain ⟨nv, dv, rfl, ha1, ha2⟩ := id ha
    obtain ⟨mv, ev, rfl, hb1, hb2⟩ := id hb
    have dp := p.den_nz
    have dq := q.den_nz
    refine wpf_fn H.f59 (by simp) ?_
    simp only [↓stU, stD, reduceEqDiff, ↓reduceIte]
    refine wsr ?_
    refine wpo_boxF (by simp only [↓stU, stD, reduceEqDiff, ↓reduceIte, cells_agg]; rfl) ?_
    intro S1 s1 n1 c1 f1
    refine wpo_boxF (by simp only [↓stU, stD, reduceEqDiff, ↓reduceIte, cells_agg]; rfl) ?_
    intro S2 s2 n2 c2 f2
    refine wpo_allocF ?_
    intro S3 s3 n3 c3 f3
    simp only [↓stU, stD, reduceEqDiff, ↓reduceIte]
    have e1 : S1.nx = S.nx + 1 := n1
    have e2 : S2.nx = S.nx + 2 := by omega
    rw [e1] at c2
    rw [e2] at c3
    have I : SimI S [.bool (decide (p.num < 0)), nv, dv] [.bool (decide (q.num < 0)), mv, ev] S3 := ⟨s1.trans (s2.trans s3), f3.1 (f2.1 (f1.1 hF)), by rw [s3.2 _ (by omega), s2.2 _ (by omega)]; exact c1, by rw [s3.2 _ (by omega)]; exact c2, c3, by omega⟩
    have hcz : decide (q.num < 0) = false → (p.num ≤ 0 ↔ p ≤ 0) ∧ 0 ≤ q := fun h => ⟨⟨rat_np, fun h => by rw [le_num] at h; simp at h; exact h⟩, rat_nn (by simpa using h)⟩
    refine wpc_seq (wpc_seq (wpc_mono (Q := fun o A' X => o = .normal ∧ A'.inr = false ∧ tmpV 2 A'.F = .ptr S.nx 0 ∧ tmpV 3 A'.F = .ptr (S.nx + 1) 0 ∧ tmpV 4 A'.F = .ptr (S.nx + 2) 0 ∧ tmpV 18 A'.F = .bool (decide (p.num ≤ 0) && !decide (q.num < 0)) ∧ SimI S [.bool (decide (p.num < 0)), nv, dv] [.bool (decide (q.num < 0)), mv, ev] X) (wpc_reg ?_) ?_))
    · by_cases hs : p.num < 0
      · have g2 := I.g2
        rw [decide_eq_true hs] at g2
        simp only [↓stU, stD, reduceEqDiff, ↓reduceIte, e1, e2, evQ_faddr, faddr_ptr, ld3_0 g2, ld3_0 I.g3, un_not]
        rw [decide_eq_true (show p.num ≤ 0 by omega), Bool.true_and]
        exact ⟨rfl, I⟩
      · have g2 := I.g2
        rw [decide_eq_false hs] at g2
        simp only [↓stU, stD, reduceEqDiff, ↓reduceIte, e1, e2, evQ_faddr, faddr_ptr, ld3_0 g2, ld3 I.g2]
        refine wpo_call ?_
        try simp only [↓stU, stD, reduceEqDiff, ↓reduceIte]
        refine wpf_mono (wpf_fresh (xzero_spec H (ha.same I.same))) ?_
        rintro _ X ⟨⟨rfl, x⟩, k⟩
        have I := I.step x k
        by_cases hz : p.num = 0
        · simp only [↓stU, stD, reduceEqDiff, ↓reduceIte, decide_eq_true hz, evQ_faddr, faddr_ptr, ld3_0 I.g3, un_not]
          rw [decide_eq_true (show p.num ≤ 0 by omega), Bool.true_and]
          exact ⟨rfl, I⟩
        · simp only [↓stU, stD, reduceEqDiff, ↓reduceIte, decide_eq_false hz]
          rw [decide_eq_false (show ¬ p.num ≤ 0 by omega), Bool.false_and]
          exact ⟨rfl, I⟩
    clear I
    rintro o ⟨F, inr⟩ X ⟨rfl, q0, p2, p3, p4, p18, I⟩
    simp only at q0 p2 p3 p4 p18
    subst q0
    try simp only [↓stU, stD, reduceEqDiff, ↓reduceIte]
    cases hc : (decide (p.num ≤ 0) && !decide (q.num < 0)) with
    | true =>
      rw [hc] at p18
      refine wpc_yes (by simp only [↓stU, stD, reduceEqDiff, ↓reduceIte, p18]) ?_
      refine wsr ?_
      refine wpo_call ?_
      try simp only [↓stU, stD, reduceEqDiff, ↓reduceIte]
      refine wpf_mono (xwhole_spec H (by decide) (by decide)) ?_
      rintro v Y ⟨hv, y⟩
      obtain ⟨v0, v1, v2, rfl⟩ := hv.cells
      have c4 : Y.h.get (S.nx + 2) = some (.cells [.bool false, .nilsl, .nilsl] false 0) := by rw [y.2 _ I.l4]; exact I.g4
      try simp only [↓stU, stD, reduceEqDiff, ↓reduceIte]
      refine wpo_st (b := S.nx + 2) (by simp only [↓stU, stD, reduceEqDiff, ↓reduceIte, p4]) (by simp only [↓stU, stD, reduceEqDiff, ↓reduceIte, cells_agg]; rfl) c4 rfl rfl ?_
      intro Z z nz cz
      simp only [↓stU, stD, reduceEqDiff, ↓reduceIte]
      refine wpc_ret ?_
      simp only [↓stU, stD, reduceEqDiff, ↓reduceIte, results_cell, p4, ld3 cz]
      simp only [Bool.and_eq_true, decide_eq_true_eq, Bool.not_eq_true'] at hc
      exact ⟨0, hv.st c4 rfl z cz, best_zero ((hcz hc.2).1.1 hc.1) (hcz hc.2).2, z.same (I.same.trans y) (by omega)⟩
    | false =>
    rw [hc] at p18
    refine wpc_non (by simp only [↓stU, stD, reduceEqDiff, ↓reduceIte, p18]) (wpc_skip ?_)
    try simp only [↓stU, stD, reduceEqDiff, ↓reduceIte]
    refine wss ?_
    simp only [↓stU, stD, reduceEqDiff, ↓reduceIte, p3, evQ_faddr, faddr_ptr, ld3_0 I.g3]
    by_cases hqn : q.num < 0
    · have hpn : p.num < 0 := by
        have h1 := (le_num p q).1 hpq
        have h2 : q.num * p.den < 0 := Int.mul_neg_of_neg_of_pos hqn (by omega)
        rcases Int.lt_or_le p.num 0 with h | h
        · exact h
        · have : 0 ≤ p.num * q.den := Int.mul_nonneg h (by omega)
          omega
      refine wpc_yes (by simp only [↓stU, stD, reduceEqDiff, ↓reduceIte, decide_eq_true hqn]) ?_
      have lt2 : S.nx < X.nx := by have := I.l4; omega
      have lt3 : S.nx + 1 < X.nx := by have := I.l4; omega
      have ne2 : ¬ S.nx = S.nx + 2 := by omega
      have ne3 : ¬ S.nx + 1 = S.nx + 2 := by omega
      refine wpc_seq (wpc_drd2 (fun c => c = S.nx + 2) ?_)
      intro Y y hy ny
      have hFY : Fresh Y := fun c hc => by rw [hy]; exact I.fresh c (by omega)
      simp only [↓stU, stD, reduceEqDiff, ↓reduceIte, ↓stV, stW, Nat.reduceAdd, p2, p3, ld3 I.g2, ld3 I.g3, lt2, lt3, ne2, ne3, not_false_eq_true, self_rat ha, self_rat hb]
      refine runD_call0 rfl ?_
      try simp only [↓stU, stD, reduceEqDiff, ↓reduceIte, ↓stV, stW, Nat.reduceAdd]
      refine wpf_mono (wpf_fresh (xneg_spec H (hb.same (I.same.trans y)))) ?_
      rintro w1 Y1 ⟨⟨h1, y1⟩, k1⟩
      refine ⟨y1, ?_⟩
      simp only [↓stU, stD, reduceEqDiff, ↓reduceIte, ↓stV, stW, Nat.reduceAdd, p2, p3, ld3 I.g2, ld3 I.g3, lt2, lt3, ne2, ne3, not_false_eq_true, self_rat ha, self_rat hb]
      refine runD_call0 rfl ?_
      try simp only [↓stU, stD, reduceEqDiff, ↓reduceIte, ↓stV, stW, Nat.reduceAdd]
      refine wpf_mono (wpf_fresh (xneg_spec H (ha.same (I.same.trans (y.trans y1))))) ?_
      rintro w2 Y2 ⟨⟨h2, y2⟩, k2⟩
      refine ⟨y2, ?_⟩
      try simp only [↓stU, stD, reduceEqDiff, ↓reduceIte, ↓stV, stW, Nat.reduceAdd]
      refine runD_call0 rfl ?_
      try simp only [↓stU, stD, reduceEqDiff, ↓reduceIte, ↓stV, stW, Nat.reduceAdd]
      have hmeas : 2 * ((-q).den + (-p).den) + (if (-p).num < 0 then 1 else 0) ≤ N := by
        rw [Rat.neg_den, Rat.neg_den, Rat.neg_num, if_neg (by omega)]
        rw [if_pos hqn] at hN
        omega
      refine wpf_mono (xsimple_spec H hK hK0 N hmeas (k2.1 (k1.1 hFY)) (h1.same y2) h2 hq.neg hp.neg (neg_le.2 hpq)) ?_
      rintro w3 Y3 ⟨s, h3, hbest, y3⟩
      refine ⟨y3, ?_⟩
      try simp only [↓stU, stD, reduceEqDiff, ↓reduceIte, ↓stV, stW, Nat.reduceAdd]
      refine runD_call0 rfl ?_
      try simp only [↓stU, stD, reduceEqDiff, ↓reduceIte, ↓stV, stW, Nat.reduceAdd]
      refine wpf_mono (xneg_spec H h3) ?_
      rintro w4 Y4 ⟨h4, y4⟩
      refine ⟨y4, ?_⟩
      obtain ⟨v0, v1, v2, rfl⟩ := h4.cells
      have yy := y.trans (y1.trans (y2.trans (y3.trans y4)))
      have c4 : Y4.h.get (S.nx + 2) = some (.cells [.bool false, .nilsl, .nilsl] false 0) := by rw [yy.2 _ I.l4]; exact I.g4
      try simp only [↓stU, stD, reduceEqDiff, ↓reduceIte, ↓stV, stW, Nat.reduceAdd]
      refine runD_st0 (b := S.nx + 2) rfl (by simp only [↓stU, stD, reduceEqDiff, ↓reduceIte, ↓stV, stW, Nat.reduceAdd, p4]) (by simp only [↓stU, stD, reduceEqDiff, ↓reduceIte, ↓stV, stW, Nat.reduceAdd, cells_agg]; rfl) c4 rfl rfl rfl ?_
      intro Z z nz cz
      simp only [↓stU, stD, reduceEqDiff, ↓reduceIte, ↓stV, stW, Nat.reduceAdd]
      refine wpc_ret ?_
      simp only [↓stU, stD, reduceEqDiff, ↓reduceIte, ↓stV, stW, Nat.reduceAdd, results_cell, p4, ld3 cz]
      exact ⟨-s, h4.st c4 rfl z cz, best_neg hbest, z.same (I.same.trans yy) (by omega)⟩
    refine wpc_non (by simp only [↓stU, stD, reduceEqDiff, ↓reduceIte, decide_eq_false hqn]) (wpc_skip ?_)
    try simp only [↓stU, stD, reduceEqDiff, ↓reduceIte]
    have hp0 : 0 < p.num := by
      rcases Int.lt_or_le 0 p.num with h | h
      · exact h
      · rw [decide_eq_true h, decide_eq_false hqn] at hc; cases hc
    rw [if_neg hqn] at hN
    obtain ⟨Fn, hFn⟩ : ∃ Fn : Nat, flr p = (Fn : Int) := ⟨(flr p).toNat, by have : 0 ≤ flr p := Int.ediv_nonneg (by omega) (by omega); omega⟩
    -- the whole part
    refine wsr ?_
    simp only [↓stU, stD, reduceEqDiff, ↓reduceIte, p2, ld3 I.g2]
    refine wpo_call ?_
    try simp only [↓stU, stD, reduceEqDiff, ↓reduceIte]
    refine wpf_mono (wpf_fresh (xdown_spec H (ha.same I.same) hp (by omega))) ?_
    rintro fv X1 ⟨⟨hf, x1⟩, k1⟩
    have I := I.step x1 k1
    obtain ⟨w0, w1, w2, rfl⟩ := hf.cells
    try simp only [↓stU, stD, reduceEqDiff, ↓reduceIte]
    refine wpo_allocF ?_
    intro X2 x2 nx2 d2 k2
    have hb5 := I.l4
    have I := I.step x2 k2
    have hf := hf.same x2
    try simp only [↓stU, stD, reduceEqDiff, ↓reduceIte]
    refine wpo_stF (b := X1.nx) (by simp only [↓stU, stD, reduceEqDiff, ↓reduceIte]) (by simp only [↓stU, stD, reduceEqDiff, ↓reduceIte, cells_agg]; rfl) d2 rfl rfl ?_
    intro X3 x3 nx3 d3 k3
    have hf := hf.st d2 rfl x3 d3
    have I := I.put hb5 x3 k3
    have lb5 : X1.nx < X3.nx := by omega
    simp only [↓stU, stD, reduceEqDiff, ↓reduceIte]
    generalize X1.nx = b5 at *
    refine wss ?_
    simp only [↓stU, stD, reduceEqDiff, ↓reduceIte, p2, ld3 I.g2, ld3 d3]
    refine wpo_call ?_
    try simp only [↓stU, stD, reduceEqDiff, ↓reduceIte]
    refine wpf_mono (wpf_fresh (xorderR_spec H I.fresh hf (ha.same I.same) (flr_bd hp) (hp.mono (Nat.le_succ K)) (by omega))) ?_
    rintro _ X4 ⟨⟨rfl, x4⟩, k4⟩
    have I := I.step x4 k4
    have hf := hf.same x4
    have d4 : X4.h.get b5 = some (.cells [w0, w1, w2] false 0) := by rw [x4.2 _ lb5]; exact d3
    have lb5 : b5 < X4.nx := Nat.lt_of_lt_of_le lb5 x4.1
    try simp only [↓stU, stD, reduceEqDiff, ↓reduceIte]
    by_cases hpf : (flr p : Rat) = p
    · refine wpc_yes (by simp only [↓stU, stD, reduceEqDiff, ↓reduceIte, decide_eq_true (cmpR_zero.2 hpf)]) ?_
      refine wsr ?_
      simp only [↓stU, stD, reduceEqDiff, ↓reduceIte, ld3 d4]
      refine wpo_st (b := S.nx + 2) (by simp only [↓stU, stD, reduceEqDiff, ↓reduceIte, p4]) (by simp only [↓stU, stD, reduceEqDiff, ↓reduceIte, cells_agg]; rfl) I.g4 rfl rfl ?_
      intro Z z nz cz
      simp only [↓stU, stD, reduceEqDiff, ↓reduceIte]
      refine wpc_ret ?_
      simp only [↓stU, stD, reduceEqDiff, ↓reduceIte, results_cell, p4, ld3 cz]
      refine ⟨(flr p : Rat), hf.st I.g4 rfl z cz, ?_, z.same I.same (by omega)⟩
      rw [hpf]
      exact whole_best hp0 hpq (by rw [← hpf]; rfl)
    refine wpc_non (by simp only [↓stU, stD, reduceEqDiff, ↓reduceIte, decide_eq_false (fun h => hpf (cmpR_zero.1 h))]) (wpc_skip ?_)
    try simp only [↓stU, stD, reduceEqDiff, ↓reduceIte]
    -- the next whole number
    have hnone : X4.h.get (X4.nx + 3) = none := I.fresh _ (by omega)
    refine wpc_seq (wpc_seq (wpc_mono (Q := fun o A' Y => (o = .normal ∧ A'.inr = false ∧ tmpV 2 A'.F = .ptr S.nx 0 ∧ tmpV 3 A'.F = .ptr (S.nx + 1) 0 ∧ tmpV 4 A'.F = .ptr (S.nx + 2) 0 ∧ tmpV 5 A'.F = .ptr b5 0 ∧ ∃ b6 u0 u1 u2, tmpV 6 A'.F = .ptr b6 0 ∧ b5 < b6 ∧ b6 < Y.nx ∧ Y.h.get b6 = some (.cells [u0, u1, u2] false 0) ∧ RatIs Y (.agg [u0, u1, u2]) ((flr p : Rat) + ((1 : Int) : Rat)) ∧ Same X4 Y) ∧ Frs X4 Y) (wpc_fresh (wpc_drd2 (fun _ => False) ?_)) ?_))
    · intro Y y hy ny
      simp only [List.length_cons, List.length_nil, Nat.reduceAdd] at ny
      simp only [↓stU, stD, reduceEqDiff, ↓reduceIte, ↓stV, stW, Nat.reduceAdd, ld3 d4, lb5, not_false_eq_true, self_rat hf]
      refine runD_call0 rfl ?_
      try simp only [↓stU, stD, reduceEqDiff, ↓reduceIte, ↓stV, stW, Nat.reduceAdd]
      refine wpf_mono (xwhole_spec H (z := 1) (by decide) (by decide)) ?_
      rintro o1 Y1 ⟨h1, y1⟩
      refine ⟨y1, ?_⟩
      try simp only [↓stU, stD, reduceEqDiff, ↓reduceIte, ↓stV, stW, Nat.reduceAdd]
      refine runD_call0 rfl ?_
      try simp only [↓stU, stD, reduceEqDiff, ↓reduceIte, ↓stV, stW, Nat.reduceAdd]
      refine wpf_mono (xplusR_spec H (hf.same (y.trans y1)) h1 (flr_bd hp) (one_bnd (by omega)) (by omega)) ?_
      rintro o2 Y2 ⟨h2, y2⟩
      refine ⟨y2, ?_⟩
      obtain ⟨u0, u1, u2, rfl⟩ := h2.cells
      try simp only [↓stU, stD, reduceEqDiff, ↓reduceIte, ↓stV, stW, Nat.reduceAdd]
      refine runD_new (v0 := u0) (v1 := u1) (v2 := u2) rfl rfl (by decide) (by simp only [↓stU, stD, reduceEqDiff, ↓reduceIte, ↓stV, stW, Nat.reduceAdd]) ?_
      intro Z z nz cz
      have yy := y.trans (y1.trans y2)
      have hn2 : Y2.h.get (X4.nx + 3) = none := by rw [(y1.trans y2).2 _ (by omega), hy]; exact hnone
      have l2 := (y1.trans y2).1
      simp only [↓stU, stD, reduceEqDiff, ↓reduceIte, ↓stV, stW, Nat.reduceAdd, p2, p3, p4]
      exact ⟨X4.nx + 3, u0, u1, u2, rfl, by omega, by omega, cz, h2.lay hn2 z, z.same yy (by omega)⟩
    clear hnone
    rintro o ⟨F1, inr⟩ Y ⟨⟨rfl, q0, r2, r3, r4, r5, b6, u0, u1, u2, r6, l56, l6, d6, hu, y⟩, k⟩
    simp only at q0 r2 r3 r4 r5 r6
    subst q0
    clear p2 p3 p4 p18
    try simp only [↓stU, stD, reduceEqDiff, ↓reduceIte]
    have I := I.step y k
    have hf := hf.same y
    have d5 : Y.h.get b5 = some (.cells [w0, w1, w2] false 0) := by rw [y.2 _ lb5]; exact d4
    have lb5 : b5 < Y.nx := by omega
    refine wsr ?_
    simp only [↓stU, stD, reduceEqDiff, ↓reduceIte, r6, r3, ld3 d6, ld3 I.g3]
    refine wpo_call ?_
    try simp only [↓stU, stD, reduceEqDiff, ↓reduceIte]
    have hnb : Bnd (K + 3) ((flr p : Rat) + ((1 : Int) : Rat)) := (Bnd.add (flr_bd hp) (one_bnd (K := 1) (by decide))).mono (by omega)
    refine wpf_mono (wpf_fresh (xorderR_spec H I.fresh hu (hb.same I.same) hnb (hq.mono (by omega)) (by omega))) ?_
    rintro _ Y1 ⟨⟨rfl, y1⟩, k1⟩
    have I := I.step y1 k1
    have hf := hf.same y1
    have hu := hu.same y1
    have d5 : Y1.h.get b5 = some (.cells [w0, w1, w2] false 0) := by rw [y1.2 _ lb5]; exact d5
    have d6 : Y1.h.get b6 = some (.cells [u0, u1, u2] false 0) := by rw [y1.2 _ l6]; exact d6
    have lb5 : b5 < Y1.nx := Nat.lt_of_lt_of_le lb5 y1.1
    try simp only [↓stU, stD, reduceEqDiff, ↓reduceIte]
    by_cases hnx : (flr p : Rat) + 1 ≤ q
    · refine wpc_yes (by simp only [↓stU, stD, reduceEqDiff, ↓reduceIte, decide_eq_true (cmpR_le.2 (show (flr p : Rat) + ((1 : Int) : Rat) ≤ q from hnx))]) ?_
      refine wsr ?_
      simp only [↓stU, stD, reduceEqDiff, ↓reduceIte, r6, ld3 d6]
      refine wpo_st (b := S.nx + 2) (by simp only [↓stU, stD, reduceEqDiff, ↓reduceIte, r4]) (by simp only [↓stU, stD, reduceEqDiff, ↓reduceIte, cells_agg]; rfl) I.g4 rfl rfl ?_
      intro Z z nz cz
      simp only [↓stU, stD, reduceEqDiff, ↓reduceIte]
      refine wpc_ret ?_
      simp only [↓stU, stD, reduceEqDiff, ↓reduceIte, results_cell, r4, ld3 cz]
      exact ⟨(flr p : Rat) + 1, hu.st I.g4 rfl z cz, next_best hp0 hpf hnx, z.same I.same (by omega)⟩
    refine wpc_non (by simp only [↓stU, stD, reduceEqDiff, ↓reduceIte, decide_eq_false (show ¬ cmpR ((flr p : Rat) + ((1 : Int) : Rat)) q ≤ 0 from fun h => hnx (cmpR_le.1 h))]) (wpc_skip ?_)
    try simp only [↓stU, stD, reduceEqDiff, ↓reduceIte]
    -- the recursion
    obtain ⟨t1, t2, t3, t4, t5, t6, t7, _⟩ := simple_step (s := 0) hp0 hpq hFn hpf hnx
    have tS := fun s => (simple_step (s := s) hp0 hpq hFn hpf hnx).2.2.2.2.2.2.2
    have lt2 : S.nx < Y1.nx := by have := I.l4; omega
    have lt3 : S.nx + 1 < Y1.nx := by have := I.l4; omega
    have hnone : Y1.h.get (Y1.nx + 13) = none := I.fresh _ (by omega)
    have hfb : Bnd (K + 1) (-(flr p : Rat)) := (flr_bd hp).neg
    refine wpc_seq (wpc_mono (Q := fun o A' Z => o = .normal ∧ A'.inr = false ∧ tmpV 4 A'.F = .ptr (S.nx + 2) 0 ∧ tmpV 5 A'.F = .ptr b5 0 ∧ ∃ s b7 x0 x1 x2, tmpV 7 A'.F = .ptr b7 0 ∧ b7 < Z.nx ∧ b7 ≠ S.nx + 2 ∧ Z.h.get b7 = some (.cells [x0, x1, x2] false 0) ∧ RatIs Z (.agg [x0, x1, x2]) s ∧ Bnd K s ∧ 0 < s.num ∧ BestR p q ((flr p : Rat) + ((1 : Int) : Rat) * s⁻¹) ∧ Same Y1 Z) (wpc_drd2 (fun _ => False) ?_) ?_)
    · intro Z z hz nz
      simp only [List.length_cons, List.length_nil, Nat.reduceAdd] at nz
      have hFZ : Fresh Z := fun c hc => by rw [hz]; exact I.fresh c (by omega)
      try simp only [↓stU, stD, reduceEqDiff, ↓reduceIte, ↓stV, stW, Nat.reduceAdd]
      refine runD_call0 rfl ?_
      try simp only [↓stU, stD, reduceEqDiff, ↓reduceIte, ↓stV, stW, Nat.reduceAdd]
      refine wpf_mono (wpf_fresh (xwhole_spec H (z := 1) (by decide) (by decide))) ?_
      rintro o1 Z1 ⟨⟨h1, z1⟩, g1⟩
      refine ⟨z1, ?_⟩
      simp only [↓stU, stD, reduceEqDiff, ↓reduceIte, ↓stV, stW, Nat.reduceAdd, r2, r3, r5, ld3 I.g3, ld3 I.g2, ld3 d5, lt2, lt3, lb5, not_false_eq_true, self_rat ha, self_rat hb, self_rat hf]
      refine runD_call0 rfl ?_
      try simp only [↓stU, stD, reduceEqDiff, ↓reduceIte, ↓stV, stW, Nat.reduceAdd]
      have a1 := z.trans z1
      refine wpf_mono (wpf_fresh (xneg_spec H (hf.same a1))) ?_
      rintro o2 Z2 ⟨⟨h2, z2⟩, g2⟩
      refine ⟨z2, ?_⟩
      try simp only [↓stU, stD, reduceEqDiff, ↓reduceIte, ↓stV, stW, Nat.reduceAdd]
      refine runD_call0 rfl ?_
      try simp only [↓stU, stD, reduceEqDiff, ↓reduceIte, ↓stV, stW, Nat.reduceAdd]
      have a2 := a1.trans z2
      refine wpf_mono (wpf_fresh (xplusR_spec H (hb.same (I.same.trans a2)) h2 (hq.mono (Nat.le_succ K)) hfb (by omega))) ?_
      rintro o3 Z3 ⟨⟨h3, z3⟩, g3⟩
      refine ⟨z3, ?_⟩
      try simp only [↓stU, stD, reduceEqDiff, ↓reduceIte, ↓stV, stW, Nat.reduceAdd]
      refine runD_call0 rfl ?_
      try simp only [↓stU, stD, reduceEqDiff, ↓reduceIte, ↓stV, stW, Nat.reduceAdd]
      have a3 := a2.trans z3
      have b3 : Bnd (2 * K + 3) (q + -(flr p : Rat)) := (Bnd.add (hq.mono (Nat.le_succ K)) hfb).mono (by omega)
      refine wpf_mono (wpf_fresh (xoverR_spec H (h1.same (z2.trans z3)) h3 (one_bnd (by omega)) b3 (by omega) (by omega))) ?_
      rintro o4 Z4 ⟨⟨h4, z4⟩, g4⟩
      refine ⟨z4, ?_⟩
      try simp only [↓stU, stD, reduceEqDiff, ↓reduceIte, ↓stV, stW, Nat.reduceAdd]
      refine runD_call0 rfl ?_
      try simp only [↓stU, stD, reduceEqDiff, ↓reduceIte, ↓stV, stW, Nat.reduceAdd]
      have a4 := a3.trans z4
      refine wpf_mono (wpf_fresh (xwhole_spec H (z := 1) (by decide) (by decide))) ?_
      rintro o5 Z5 ⟨⟨h5, z5⟩, g5⟩
      refine ⟨z5, ?_⟩
      simp only [↓stU, stD, reduceEqDiff, ↓reduceIte, ↓stV, stW, Nat.reduceAdd, r2, r3, r5, ld3 I.g3, ld3 I.g2, ld3 d5, lt2, lt3, lb5, not_false_eq_true, self_rat ha, self_rat hb, self_rat hf]
      refine runD_call0 rfl ?_
      try simp only [↓stU, stD, reduceEqDiff, ↓reduceIte, ↓stV, stW, Nat.reduceAdd]
      have a5 := a4.trans z5
      refine wpf_mono (wpf_fresh (xneg_spec H (hf.same a5))) ?_
      rintro o6 Z6 ⟨⟨h6, z6⟩, g6⟩
      refine ⟨z6, ?_⟩
      try simp only [↓stU, stD, reduceEqDiff, ↓reduceIte, ↓stV, stW, Nat.reduceAdd]
      refine runD_call0 rfl ?_
      try simp only [↓stU, stD, reduceEqDiff, ↓reduceIte, ↓stV, stW, Nat.reduceAdd]
      have a6 := a5.trans z6
      refine wpf_mono (wpf_fresh (xplusR_spec H (ha.same (I.same.trans a6)) h6 (hp.mono (Nat.le_succ K)) hfb (by omega))) ?_
      rintro o7 Z7 ⟨⟨h7, z7⟩, g7⟩
      refine ⟨z7, ?_⟩
      try simp only [↓stU, stD, reduceEqDiff, ↓reduceIte, ↓stV, stW, Nat.reduceAdd]
      refine runD_call0 rfl ?_
      try simp only [↓stU, stD, reduceEqDiff, ↓reduceIte, ↓stV, stW, Nat.reduceAdd]
      have a7 := a6.trans z7
      have b7 : Bnd (2 * K + 3) (p + -(flr p : Rat)) := (Bnd.add (hp.mono (Nat.le_succ K)) hfb).mono (by omega)
      refine wpf_mono (wpf_fresh (xoverR_spec H (h5.same (z6.trans z7)) h7 (one_bnd (by omega)) b7 (by omega) (by omega))) ?_
      rintro o8 Z8 ⟨⟨h8, z8⟩, g8⟩
      refine ⟨z8, ?_⟩
      try simp only [↓stU, stD, reduceEqDiff, ↓reduceIte, ↓stV, stW, Nat.reduceAdd]
      refine runD_call0 rfl ?_
      try simp only [↓stU, stD, reduceEqDiff, ↓reduceIte, ↓stV, stW, Nat.reduceAdd]
      have a8 := a7.trans z8
      have bp := bnd_of hq t5 t3
      have bq := bnd_of hp t6 t4
      have hmeas : 2 * ((((1 : Int) : Rat) * (q + -(flr p : Rat))⁻¹).den + (((1 : Int) : Rat) * (p + -(flr p : Rat))⁻¹).den) + (if (((1 : Int) : Rat) * (p + -(flr p : Rat))⁻¹).num < 0 then 1 else 0) ≤ N := by
        rw [if_neg (by rw [t6]; omega)]
        omega
      refine wpf_mono (xsimple_spec H hK hK0 N hmeas (g8.1 (g7.1 (g6.1 (g5.1 (g4.1 (g3.1 (g2.1 (g1.1 hFZ)))))))) (h4.same (z5.trans (z6.trans (z7.trans z8)))) h8 bp bq t7) ?_
      rintro o9 Z9 ⟨s, h9, hbest, z9⟩
      refine ⟨z9, ?_⟩
      obtain ⟨x0, x1, x2, rfl⟩ := h9.cells
      have a9 := a8.trans z9
      try simp only [↓stU, stD, reduceEqDiff, ↓reduceIte, ↓stV, stW, Nat.reduceAdd]
      refine runD_new (v0 := x0) (v1 := x1) (v2 := x2) rfl rfl (by decide) (by simp only [↓stU, stD, reduceEqDiff, ↓reduceIte, ↓stV, stW, Nat.reduceAdd]) ?_
      intro V v nv' cv
      have z19 := z1.trans (z2.trans (z3.trans (z4.trans (z5.trans (z6.trans (z7.trans (z8.trans z9)))))))
      have hn2 : Z9.h.get (Y1.nx + 13) = none := by rw [z19.2 _ (by omega), hz]; exact hnone
      have l2 := z19.1
      obtain ⟨tb1, tb2⟩ := tS s hbest
      have hsb : Bnd K s := by
        obtain ⟨k1, k2⟩ := hbest.2.2 _ Rat.le_refl t7
        exact ⟨Nat.lt_of_le_of_lt k2 bp.1, Nat.lt_of_le_of_lt k1 bp.2⟩
      simp only [↓stU, stD, reduceEqDiff, ↓reduceIte, ↓stV, stW, Nat.reduceAdd, r4, r5]
      exact ⟨s, Y1.nx + 13, x0, x1, x2, rfl, by omega, by omega, cv, h9.lay hn2 v, hsb, tb1, tb2, v.same a9 (by omega)⟩
    rintro o ⟨F2, inr⟩ Z ⟨rfl, q0, r4', r5', s, b7, x0, x1, x2, r7, l7, hb7, d7, hx, hsb, hs0, hbest, z⟩
    simp only at q0 r4' r5' r7
    subst q0
    try simp only [↓stU, stD, reduceEqDiff, ↓reduceIte]
    have hf := hf.same z
    have d5 : Z.h.get b5 = some (.cells [w0, w1, w2] false 0) := by rw [z.2 _ lb5]; exact d5
    have lb5 : b5 < Z.nx := Nat.lt_of_lt_of_le lb5 z.1
    have l4 := I.l4
    have lz := z.1
    have c4 : Z.h.get (S.nx + 2) = some (.cells [.bool false, .nilsl, .nilsl] false 0) := by rw [z.2 _ I.l4]; exact I.g4
    have ne5 : ¬ b5 = S.nx + 2 := by omega
    have ne7 : ¬ b7 = S.nx + 2 := hb7
    refine wpc_seq (wpc_drd1 (fun c => c = S.nx + 2) ?_)
    intro V v
    simp only [↓stU, stD, reduceEqDiff, ↓reduceIte, ↓stV, stW, Nat.reduceAdd, r5', ld3 d5, lb5, ne5, not_false_eq_true, self_rat hf]
    refine runD_call0 rfl ?_
    try simp only [↓stU, stD, reduceEqDiff, ↓reduceIte, ↓stV, stW, Nat.reduceAdd]
    refine wpf_mono (xwhole_spec H (z := 1) (by decide) (by decide)) ?_
    rintro o1 V1 ⟨h1, v1⟩
    refine ⟨v1, ?_⟩
    simp only [↓stU, stD, reduceEqDiff, ↓reduceIte, ↓stV, stW, Nat.reduceAdd, r7, ld3 d7, l7, ne7, not_false_eq_true, self_rat hx]
    refine runD_call0 rfl ?_
    try simp only [↓stU, stD, reduceEqDiff, ↓reduceIte, ↓stV, stW, Nat.reduceAdd]
    have a1 := v.trans v1
    refine wpf_mono (xoverR_spec H h1 (hx.same a1) (one_bnd hK0) hsb (by omega) (by omega)) ?_
    rintro o2 V2 ⟨h2, v2⟩
    refine ⟨v2, ?_⟩
    try simp only [↓stU, stD, reduceEqDiff, ↓reduceIte, ↓stV, stW, Nat.reduceAdd]
    refine runD_call0 rfl ?_
    try simp only [↓stU, stD, reduceEqDiff, ↓reduceIte, ↓stV, stW, Nat.reduceAdd]
    have a2 := a1.trans v2
    have hb2' : Bnd (2 * K) (((1 : Int) : Rat) * s⁻¹) := (Bnd.mul (one_bnd hK0) (hsb.inv (by omega))).mono (by omega)
    refine wpf_mono (xplusR_spec H (hf.same a2) h2 ((flr_bd hp).mono (show K + 1 ≤ 2 * K by omega)) hb2' (by omega)) ?_
    rintro o3 V3 ⟨h3, v3⟩
    refine ⟨v3, ?_⟩
    have a3 := a2.trans v3
    obtain ⟨y0, y1', y2', rfl⟩ := h3.cells
    have c5 : V3.h.get (S.nx + 2) = some (.cells [.bool false, .nilsl, .nilsl] false 0) := by rw [a3.2 _ (by omega)]; exact c4
    try simp only [↓stU, stD, reduceEqDiff, ↓reduceIte, ↓stV, stW, Nat.reduceAdd]
    refine runD_st0 (b := S.nx + 2) rfl (by simp only [↓stU, stD, reduceEqDiff, ↓reduceIte, ↓stV, stW, Nat.reduceAdd, r4']) (by simp only [↓stU, stD, reduceEqDiff, ↓reduceIte, ↓stV, stW, Nat.reduceAdd, cells_agg]; rfl) c5 rfl rfl rfl ?_
    intro V4 v4 nv4 cv4
    simp only [↓stU, stD, reduceEqDiff, ↓reduceIte, ↓stV, stW, Nat.reduceAdd]
    refine wpc_ret ?_
    simp only [↓stU, stD, reduceEqDiff, ↓reduceIte, ↓stV, stW, Nat.reduceAdd, results_cell, r4', ld3 cv4]
    exact ⟨_, h3.st c5 rfl v4 cv4, hbest, v4.same (I.same.trans (z.trans a3)) (by omega)⟩
end Go.Ev.Gl

namespace Go.Ev.Gl
variable {fns : T AFn}

/-! ## 'RatSimples' -/
noncomputable def simE (E : Int) (p q : Rat) : Int := if E ≠ 0 then E else if p ≤ q then 0 else 9
/-- the answer to the question for the simplest number -/
def SimR (S : St) (r : AV) (E : Int) (p q : Rat) : Prop := ∃ o, ResIs S r o (simE E p q) ∧ (simE E p q = 0 → ∃ s, o = some s ∧ BestR p q s ∧ p ≤ q ∧ E = 0) ∧ (simE E p q ≠ 0 → o = none)
theorem simE_err {E : Int} {p q : Rat} (h : E ≠ 0) : simE E p q = E := if_pos h
theorem simE_ok {E : Int} {p q : Rat} (h : E = 0) (hpq : p ≤ q) : simE E p q = 0 := by unfold simE; rw [if_neg (fun k => k h), if_pos hpq]
theorem simE_no {E : Int} {p q : Rat} (h : E = 0) (hpq : ¬ p ≤ q) : simE E p q = 9 := by unfold simE; rw [if_neg (fun k => k h), if_neg hpq]
theorem simR_none {S : St} {r : AV} {E : Int} {p q : Rat} (h : ResIs S r none (simE E p q)) (hn : simE E p q ≠ 0) : SimR S r E p q := ⟨none, h, fun k => absurd k hn, fun _ => rfl⟩
theorem simR_some {S : St} {v : AV} {E : Int} {p q s : Rat} (h : RatIs S v s) (hE : E = 0) (hpq : p ≤ q) (hb : BestR p q s) : SimR S (.tup [v, .int .i64 0]) E p q := by
  have e := simE_ok (p := p) (q := q) hE hpq
  refine ⟨some s, ?_, fun _ => ⟨s, rfl, hb, hpq, hE⟩, fun k => absurd e k⟩
  rw [e]
  exact res_ok h

section
variable {S : St} {a b : AV} {E : Int} {p q : Rat}
theorem xSimple (H : Has fns) (hF : Fresh S) (h : Pair S a b E p q) : wpf fns (.fn 13 [] []) [a, b] S fun r S' => SimR S' r E p q ∧ Same S S' := by
  obtain ⟨a0, a1, a2, b0, b1, b2, rfl, rfl⟩ := h.cells
  refine op_pre (n := 7) H.f13 (by decide) (.inl rfl) (h.xboths H) (fun hE S' r hs hr => ⟨simR_none (by rw [simE_err hE]; exact hr) (by rw [simE_err hE]; exact hE), hs⟩) (fun hE F S4 hF4 s4 l4 k1 k2 k3 f4 => ?_)
  obtain ⟨h1, h2, h3, h4⟩ := h.ok hE
  have p2 : tmpV 2 F = .ptr S.nx 0 := hF4 2 (by decide)
  have p3 : tmpV 3 F = .ptr (S.nx + 1) 0 := hF4 3 (by decide)
  have p4 : tmpV 4 F = .ptr (S.nx + 2) 0 := hF4 4 (by decide)
  refine wss ?_
  simp only [↓stU, stD, reduceEqDiff, ↓reduceIte, p2, p3, ld3 k1, ld3 k2]
  refine wpo_call ?_
  try simp only [↓stU, stD, reduceEqDiff, ↓reduceIte]
  refine wpf_mono (wpf_fresh (xorderR_spec H (f4.1 hF) (h1.same s4) (h2.same s4) h3 h4 (by decide))) ?_
  rintro _ S5 ⟨⟨rfl, s5⟩, f5⟩
  have l5 := s5.1
  have j1 : S5.h.get S.nx = some (.cells [a0, a1, a2] false 0) := by rw [s5.2 _ (by omega)]; exact k1
  have j2 : S5.h.get (S.nx + 1) = some (.cells [b0, b1, b2] false 0) := by rw [s5.2 _ (by omega)]; exact k2
  have j3 : S5.h.get (S.nx + 2) = some (.cells [.bool false, .nilsl, .nilsl] false 0) := by rw [s5.2 _ (by omega)]; exact k3
  try simp only [↓stU, stD, reduceEqDiff, ↓reduceIte]
  have hle := @cmpR_le p q
  by_cases hpq : p ≤ q
  · refine wpc_non (by simp only [↓stU, stD, reduceEqDiff, ↓reduceIte, decide_eq_false (show ¬ 0 < cmpR p q by have := hle.2 hpq; omega)]) (wpc_skip ?_)
    try simp only [↓stU, stD, reduceEqDiff, ↓reduceIte]
    refine wsr ?_
    simp only [↓stU, stD, reduceEqDiff, ↓reduceIte, p2, p3, ld3 j1, ld3 j2]
    refine wpo_call ?_
    try simp only [↓stU, stD, reduceEqDiff, ↓reduceIte]
    refine wpf_mono (xsimple_spec H (K := 30) (by decide) (by decide) _ (Nat.le_refl _) (f5.1 (f4.1 hF)) (h1.same (s4.trans s5)) (h2.same (s4.trans s5)) h3 h4 hpq) ?_
    rintro v5 S6 ⟨s, hv5, hbest, s6⟩
    try simp only [↓stU, stD, reduceEqDiff, ↓reduceIte]
    refine wpo_call ?_
    try simp only [↓stU, stD, reduceEqDiff, ↓reduceIte]
    refine wpf_mono (xfits_spec H hv5 (best_in hpq hbest (bnd_in h3))) ?_
    rintro _ S7 ⟨u, rfl, hu, s7⟩
    obtain ⟨c0, c1, c2, rfl⟩ := hu.cells
    have k7 : S7.h.get (S.nx + 2) = some (.cells [.bool false, .nilsl, .nilsl] false 0) := by rw [(s6.trans s7).2 _ (by omega)]; exact j3
    simp only [↓stU, stD, reduceEqDiff, ↓reduceIte, ex0, ex1, p4]
    refine wpo_st (b := S.nx + 2) (by simp only [↓stU, stD, reduceEqDiff, ↓reduceIte, p4]) (by simp only [↓stU, stD, reduceEqDiff, ↓reduceIte, cells_agg]; rfl) k7 rfl rfl ?_
    intro S8 s8 n8 c8
    simp only [↓stU, stD, reduceEqDiff, ↓reduceIte]
    refine wpc_ret ?_
    simp only [↓stU, stD, reduceEqDiff, ↓reduceIte, results_cell, p4, ld3 c8]
    exact ⟨simR_some (hu.st k7 rfl s8 c8) hE hpq hbest, s8.same (s4.trans (s5.trans (s6.trans s7))) (by omega)⟩
  · refine wpc_yes (by simp only [↓stU, stD, reduceEqDiff, ↓reduceIte, decide_eq_true (show 0 < cmpR p q from Int.not_le.1 fun h => hpq (hle.1 h))]) ?_
    refine wsr ?_
    simp only [↓stU, stD, reduceEqDiff, ↓reduceIte, build0, p4]
    refine wpo_st (b := S.nx + 2) (by simp only [↓stU, stD, reduceEqDiff, ↓reduceIte, p4]) (by simp only [↓stU, stD, reduceEqDiff, ↓reduceIte, cells_agg]; rfl) j3 rfl rfl ?_
    intro S6 s6 n6 c6
    simp only [↓stU, stD, reduceEqDiff, ↓reduceIte]
    refine wpc_ret ?_
    simp only [↓stU, stD, reduceEqDiff, ↓reduceIte, results_cell, p4, ld3 c6]
    exact ⟨simR_none (by rw [simE_no hE hpq]; exact ⟨_, _, _, rfl, rfl, rfl, rfl⟩) (by rw [simE_no hE hpq]; decide), s6.same (s4.trans s5) (by omega)⟩

theorem pSimple (H : Has fns) (hL : Laid S) (h : Pair S a b E p q) : wpf fns (.fn 12 [] []) [a, b] S fun r S' => SimR S' r E p q ∧ Same S S' := by
  by_cases hok : E = 0 ∧ p ≤ q
  · obtain ⟨h1, h2, h3, h4⟩ := h.ok hok.1
    refine wpf_mono (rsimple_spec H hL h1 h2 (bnd_in h3) (bnd_in h4) hok.2) ?_
    rintro r S' ⟨v, s, rfl, hv, hb, hs⟩
    exact ⟨simR_some hv hok.1 hok.2 hb, hs⟩
  obtain ⟨a0, a1, a2, b0, b1, b2, rfl, rfl⟩ := h.cells
  refine wpf_fn H.f12 (by simp) ?_
  simp only [↓stU, stD, reduceEqDiff, ↓reduceIte]
  refine wsr ?_
  refine wpo_box (by simp only [↓stU, stD, reduceEqDiff, ↓reduceIte, cells_agg]; rfl) ?_
  intro S1 s1 n1 c1
  refine wpo_box (by simp only [↓stU, stD, reduceEqDiff, ↓reduceIte, cells_agg]; rfl) ?_
  intro S2 s2 n2 c2
  refine wpo_alloc ?_
  intro S3 s3 n3 c3
  simp only [↓stU, stD, reduceEqDiff, ↓reduceIte]
  have g1 : S3.h.get S.nx = some (.cells [a0, a1, a2] false 0) := by rw [s3.2 _ (by omega), s2.2 _ (by omega)]; exact c1
  have g2 : S3.h.get S1.nx = some (.cells [b0, b1, b2] false 0) := by rw [s3.2 _ (by omega)]; exact c2
  have sS := s1.trans (s2.trans s3)
  refine wsr ?_
  simp only [↓stU, stD, reduceEqDiff, ↓reduceIte, ld3 g1, ld3 g2]
  refine wpo_call ?_
  try simp only [↓stU, stD, reduceEqDiff, ↓reduceIte]
  refine wpf_mono (pcmp H (hL.same sS) (h.same sS)) ?_
  rintro _ S4 ⟨rfl, s4⟩
  simp only [↓stU, stD, reduceEqDiff, ↓reduceIte, ex0, ex1]
  have k4 : S4.h.get S2.nx = some (.cells [.bool false, .nilsl, .nilsl] false 0) := by rw [s4.2 _ (by omega)]; exact c3
  refine wss ?_
  simp only [↓stU, stD, reduceEqDiff, ↓reduceIte]
  by_cases hE : E = 0
  · have hpq : ¬ p ≤ q := fun k => hok ⟨hE, k⟩
    refine wpc_non (by simp only [↓stU, stD, reduceEqDiff, ↓reduceIte, decide_eq_false (show ¬ E ≠ 0 from fun h => h hE)]) (wpc_skip ?_)
    try simp only [↓stU, stD, reduceEqDiff, ↓reduceIte]
    refine wss ?_
    simp only [↓stU, stD, reduceEqDiff, ↓reduceIte]
    have hc : cmpO E p q = cmpR p q := if_pos hE
    refine wpc_yes (by simp only [↓stU, stD, reduceEqDiff, ↓reduceIte, hc, decide_eq_true (show 0 < cmpR p q from Int.not_le.1 fun h => hpq (cmpR_le.1 h))]) ?_
    refine wsr ?_
    simp only [↓stU, stD, reduceEqDiff, ↓reduceIte, build0]
    refine wpo_st (b := S2.nx) (by simp only [↓stU, stD, reduceEqDiff, ↓reduceIte]) (by simp only [↓stU, stD, reduceEqDiff, ↓reduceIte, cells_agg]; rfl) k4 rfl rfl ?_
    intro S5 s5 n5 c5
    simp only [↓stU, stD, reduceEqDiff, ↓reduceIte]
    refine wpc_ret ?_
    simp only [↓stU, stD, reduceEqDiff, ↓reduceIte, results_cell, ld3 c5]
    exact ⟨simR_none (by rw [simE_no hE hpq]; exact ⟨_, _, _, rfl, rfl, rfl, rfl⟩) (by rw [simE_no hE hpq]; decide), s5.same (sS.trans s4) (by omega)⟩
  · refine wpc_yes (by simp only [↓stU, stD, reduceEqDiff, ↓reduceIte, decide_eq_true (show E ≠ 0 from hE)]) ?_
    refine wsr ?_
    simp only [↓stU, stD, reduceEqDiff, ↓reduceIte, build0]
    refine wpo_st (b := S2.nx) (by simp only [↓stU, stD, reduceEqDiff, ↓reduceIte]) (by simp only [↓stU, stD, reduceEqDiff, ↓reduceIte, cells_agg]; rfl) k4 rfl rfl ?_
    intro S5 s5 n5 c5
    simp only [↓stU, stD, reduceEqDiff, ↓reduceIte]
    refine wpc_ret ?_
    simp only [↓stU, stD, reduceEqDiff, ↓reduceIte, results_cell, ld3 c5]
    exact ⟨simR_none (by rw [simE_err hE]; exact ⟨_, _, _, rfl, rfl, rfl, rfl⟩) (by rw [simE_err hE]; exact hE), s5.same (sS.trans s4) (by omega)⟩
end

theorem bool3 (x y : Bool) : (x = true ∧ y = true) ∨ (x = true ∧ y = false) ∨ x = false := by cases x <;> cases y <;> simp

/-- THE LAW 'RatSimples', in the evaluator. -/
theorem simples_spec {S : St} {a b : AV} {s t : Bool} {l m l2 m2 : List Nat} (H : Has fns) (hL : Laid S) (hF : Fresh S) (haw : ∀ S, Laid S → wpf fns (.fn 11 [] []) [] S fun r S' => r = .bool true ∧ Same S S') (ha : RawIs S a s l m) (hb : RawIs S b t l2 m2) :
    wpf fns (.fn 3 [] []) [a, b] S fun r S' => r = .bool true ∧ Same S S' := by
  obtain ⟨nv, dv, rfl, x1, x2⟩ := id ha
  obtain ⟨mv, ev, rfl, x3, x4⟩ := id hb
  have w1 := x1.len
  have w2 := x2.len
  have w3 := x3.len
  have w4 := x4.len
  refine wpf_fn H.f3 (by simp) ?_
  simp only [↓stU, stD, reduceEqDiff, ↓reduceIte]
  refine wsr ?_
  refine wpo_boxF (by simp only [↓stU, stD, reduceEqDiff, ↓reduceIte, cells_agg]; rfl) ?_
  intro S1 s1 n1 c1 f1
  refine wpo_boxF (by simp only [↓stU, stD, reduceEqDiff, ↓reduceIte, cells_agg]; rfl) ?_
  intro S2 s2 n2 c2 f2
  simp only [↓stU, stD, reduceEqDiff, ↓reduceIte]
  have e1 : S1.nx = S.nx + 1 := n1
  rw [e1] at c2
  have g2 : S2.h.get S.nx = some (.cells [.bool s, nv, dv] false 0) := by rw [s2.2 _ (by omega)]; exact c1
  have sS := s1.trans s2
  refine wpc_seq (wpc_seq (wpc_mono (Q := fun o A' X => o = .normal ∧ A'.inr = false ∧ tmpV 2 A'.F = .ptr S.nx 0 ∧ tmpV 3 A'.F = .ptr (S.nx + 1) 0 ∧ (∃ c, tmpV 62 A'.F = .bool c ∧ (c = false → longB l m = false ∧ longB l2 m2 = false)) ∧ Same S2 X ∧ Frs S2 X) (wpc_reg ?_) ?_))
  · simp only [↓stU, stD, reduceEqDiff, ↓reduceIte, ld3 g2]
    refine wpo_call ?_
    try simp only [↓stU, stD, reduceEqDiff, ↓reduceIte]
    refine wpf_mono (wpf_fresh (long_spec H (ha.same sS))) ?_
    rintro _ X1 ⟨⟨rfl, y1⟩, k1⟩
    have g3 : X1.h.get (S.nx + 1) = some (.cells [.bool t, mv, ev] false 0) := by rw [y1.2 _ (by omega)]; exact c2
    cases hb1 : longB l m with
    | true =>
      simp only [↓stU, stD, reduceEqDiff, ↓reduceIte, e1]
      exact ⟨⟨true, rfl, fun h => by cases h⟩, y1, k1⟩
    | false =>
      simp only [↓stU, stD, reduceEqDiff, ↓reduceIte, e1, ld3 g3]
      refine wpo_call ?_
      try simp only [↓stU, stD, reduceEqDiff, ↓reduceIte]
      refine wpf_mono (wpf_fresh (long_spec H (hb.same (sS.trans y1)))) ?_
      rintro _ X2 ⟨⟨rfl, y2⟩, k2⟩
      have kk : Frs S2 X2 := ⟨fun h => k2.1 (k1.1 h), Nat.le_trans k1.2 k2.2⟩
      have l1 := y1.1
      have g2' : X2.h.get S.nx = some (.cells [.bool s, nv, dv] false 0) := by rw [y2.2 _ (by omega), y1.2 _ (by omega)]; exact g2
      have g3' : X2.h.get (S.nx + 1) = some (.cells [.bool t, mv, ev] false 0) := by rw [y2.2 _ (by omega)]; exact g3
      cases hb2 : longB l2 m2 with
      | true =>
        simp only [↓stU, stD, reduceEqDiff, ↓reduceIte, e1]
        exact ⟨⟨true, rfl, fun h => by cases h⟩, y1.trans y2, kk⟩
      | false =>
        obtain ⟨z1, hz1⟩ : ∃ x, decide ((6 : Int) < ((l.length : Nat) : Int)) = x := ⟨_, rfl⟩
        obtain ⟨z2, hz2⟩ : ∃ x, decide (((l.length : Nat) : Int) < 31) = x := ⟨_, rfl⟩
        obtain ⟨z3, hz3⟩ : ∃ x, decide ((6 : Int) < ((m.length : Nat) : Int)) = x := ⟨_, rfl⟩
        obtain ⟨z4, hz4⟩ : ∃ x, decide (((m.length : Nat) : Int) < 31) = x := ⟨_, rfl⟩
        obtain ⟨z5, hz5⟩ : ∃ x, decide ((6 : Int) < ((l2.length : Nat) : Int)) = x := ⟨_, rfl⟩
        obtain ⟨z6, hz6⟩ : ∃ x, decide (((l2.length : Nat) : Int) < 31) = x := ⟨_, rfl⟩
        obtain ⟨z7, hz7⟩ : ∃ x, decide ((6 : Int) < ((m2.length : Nat) : Int)) = x := ⟨_, rfl⟩
        obtain ⟨z8, hz8⟩ : ∃ x, decide (((m2.length : Nat) : Int) < 31) = x := ⟨_, rfl⟩
        rcases bool3 z1 z2 with ⟨rfl, rfl⟩ | ⟨rfl, rfl⟩ | rfl
        · (simp only [↓stU, stD, reduceEqDiff, ↓reduceIte, e1, evQ_faddr, faddr_ptr, ld3_1 g2', ld3_2 g2', ld3_1 g3', ld3_2 g3', w1, w2, w3, w4, hz1, hz2, hz3, hz4, hz5, hz6, hz7, hz8]; first | exact ⟨⟨_, rfl, fun _ => ⟨trivial, trivial⟩⟩, y1.trans y2, kk⟩ | exact ⟨⟨_, rfl, fun _ => ⟨rfl, rfl⟩⟩, y1.trans y2, kk⟩ | exact ⟨⟨_, rfl⟩, y1.trans y2, kk⟩ | exact ⟨⟨_, trivial⟩, y1.trans y2, kk⟩ | exact ⟨⟨_, rfl, trivial⟩, y1.trans y2, kk⟩ | exact ⟨⟨_, rfl, fun _ => trivial⟩, y1.trans y2, kk⟩)
        all_goals (rcases bool3 z3 z4 with ⟨rfl, rfl⟩ | ⟨rfl, rfl⟩ | rfl; · (simp only [↓stU, stD, reduceEqDiff, ↓reduceIte, e1, evQ_faddr, faddr_ptr, ld3_1 g2', ld3_2 g2', ld3_1 g3', ld3_2 g3', w1, w2, w3, w4, hz1, hz2, hz3, hz4, hz5, hz6, hz7, hz8]; first | exact ⟨⟨_, rfl, fun _ => ⟨trivial, trivial⟩⟩, y1.trans y2, kk⟩ | exact ⟨⟨_, rfl, fun _ => ⟨rfl, rfl⟩⟩, y1.trans y2, kk⟩ | exact ⟨⟨_, rfl⟩, y1.trans y2, kk⟩ | exact ⟨⟨_, trivial⟩, y1.trans y2, kk⟩ | exact ⟨⟨_, rfl, trivial⟩, y1.trans y2, kk⟩ | exact ⟨⟨_, rfl, fun _ => trivial⟩, y1.trans y2, kk⟩))
        all_goals (rcases bool3 z5 z6 with ⟨rfl, rfl⟩ | ⟨rfl, rfl⟩ | rfl; · (simp only [↓stU, stD, reduceEqDiff, ↓reduceIte, e1, evQ_faddr, faddr_ptr, ld3_1 g2', ld3_2 g2', ld3_1 g3', ld3_2 g3', w1, w2, w3, w4, hz1, hz2, hz3, hz4, hz5, hz6, hz7, hz8]; first | exact ⟨⟨_, rfl, fun _ => ⟨trivial, trivial⟩⟩, y1.trans y2, kk⟩ | exact ⟨⟨_, rfl, fun _ => ⟨rfl, rfl⟩⟩, y1.trans y2, kk⟩ | exact ⟨⟨_, rfl⟩, y1.trans y2, kk⟩ | exact ⟨⟨_, trivial⟩, y1.trans y2, kk⟩ | exact ⟨⟨_, rfl, trivial⟩, y1.trans y2, kk⟩ | exact ⟨⟨_, rfl, fun _ => trivial⟩, y1.trans y2, kk⟩))
        all_goals (rcases bool3 z7 z8 with ⟨rfl, rfl⟩ | ⟨rfl, rfl⟩ | rfl; · (simp only [↓stU, stD, reduceEqDiff, ↓reduceIte, e1, evQ_faddr, faddr_ptr, ld3_1 g2', ld3_2 g2', ld3_1 g3', ld3_2 g3', w1, w2, w3, w4, hz1, hz2, hz3, hz4, hz5, hz6, hz7, hz8]; first | exact ⟨⟨_, rfl, fun _ => ⟨trivial, trivial⟩⟩, y1.trans y2, kk⟩ | exact ⟨⟨_, rfl, fun _ => ⟨rfl, rfl⟩⟩, y1.trans y2, kk⟩ | exact ⟨⟨_, rfl⟩, y1.trans y2, kk⟩ | exact ⟨⟨_, trivial⟩, y1.trans y2, kk⟩ | exact ⟨⟨_, rfl, trivial⟩, y1.trans y2, kk⟩ | exact ⟨⟨_, rfl, fun _ => trivial⟩, y1.trans y2, kk⟩))
        all_goals (simp only [↓stU, stD, reduceEqDiff, ↓reduceIte, e1, evQ_faddr, faddr_ptr, ld3_1 g2', ld3_2 g2', ld3_1 g3', ld3_2 g3', w1, w2, w3, w4, hz1, hz2, hz3, hz4, hz5, hz6, hz7, hz8]; first | exact ⟨⟨_, rfl, fun _ => ⟨trivial, trivial⟩⟩, y1.trans y2, kk⟩ | exact ⟨⟨_, rfl, fun _ => ⟨rfl, rfl⟩⟩, y1.trans y2, kk⟩ | exact ⟨⟨_, rfl⟩, y1.trans y2, kk⟩ | exact ⟨⟨_, trivial⟩, y1.trans y2, kk⟩ | exact ⟨⟨_, rfl, trivial⟩, y1.trans y2, kk⟩ | exact ⟨⟨_, rfl, fun _ => trivial⟩, y1.trans y2, kk⟩)
  rintro o ⟨F, inr⟩ S3 ⟨rfl, q0, p2, p3, ⟨c, p62, hlong⟩, s3, f3⟩
  simp only at q0 p2 p3 p62
  subst q0
  try simp only [↓stU, stD, reduceEqDiff, ↓reduceIte]
  have sS3 := sS.trans s3
  have hF3 : Fresh S3 := f3.1 (f2.1 (f1.1 hF))
  have l3 := s3.1
  have g2 : S3.h.get S.nx = some (.cells [.bool s, nv, dv] false 0) := by rw [s3.2 _ (by omega)]; exact g2
  have g3 : S3.h.get (S.nx + 1) = some (.cells [.bool t, mv, ev] false 0) := by rw [s3.2 _ (by omega)]; exact c2
  cases c with
  | true =>
    refine wpc_yes (by simp only [↓stU, stD, reduceEqDiff, ↓reduceIte, p62]) ?_
    refine wsr ?_
    refine wpo_call ?_
    try simp only [↓stU, stD, reduceEqDiff, ↓reduceIte]
    refine wpf_mono (haw S3 (hL.same sS3)) ?_
    rintro _ X ⟨rfl, x⟩
    try simp only [↓stU, stD, reduceEqDiff, ↓reduceIte]
    refine wpc_ret ?_
    simp only [↓stU, stD, reduceEqDiff, ↓reduceIte]
    exact sS3.trans x
  | false =>
  refine wpc_non (by simp only [↓stU, stD, reduceEqDiff, ↓reduceIte, p62]) (wpc_skip ?_)
  try simp only [↓stU, stD, reduceEqDiff, ↓reduceIte]
  obtain ⟨nl1, nl2⟩ := hlong rfl
  have P0 := pair_of ha hb nl1 nl2
  -- the program's answer
  refine wsr ?_
  simp only [↓stU, stD, reduceEqDiff, ↓reduceIte, p2, p3, ld3 g2, ld3 g3]
  refine wpo_call ?_
  try simp only [↓stU, stD, reduceEqDiff, ↓reduceIte]
  refine wpf_mono (wpf_fresh (pSimple H (hL.same sS3) (P0.same sS3))) ?_
  rintro _ X1 ⟨⟨⟨o1, hr, ho1, hn1⟩, x1⟩, k1⟩
  obtain ⟨v0, v1, v2, rfl, hv⟩ := hr.opt
  simp only [↓stU, stD, reduceEqDiff, ↓reduceIte, ex0, ex1]
  refine wpo_allocF ?_
  intro X2 x2 nx2 d2 k2
  have hv := hv.same x2
  try simp only [↓stU, stD, reduceEqDiff, ↓reduceIte]
  refine wpo_stF (b := X1.nx) (by simp only [↓stU, stD, reduceEqDiff, ↓reduceIte]) (by simp only [↓stU, stD, reduceEqDiff, ↓reduceIte, cells_agg]; rfl) d2 rfl rfl ?_
  intro X3 x3 nx3 d3 k3
  have hv := hv.st d2 rfl x3 d3
  have l1 := x1.1
  have t3 : Same S3 X3 := x3.same (x1.trans x2) (by omega)
  have hF4 : Fresh X3 := k3.1 (k2.1 (k1.1 hF3))
  simp only [↓stU, stD, reduceEqDiff, ↓reduceIte]
  have g2 : X3.h.get S.nx = some (.cells [.bool s, nv, dv] false 0) := by rw [t3.2 _ (by omega)]; exact g2
  have g3 : X3.h.get (S.nx + 1) = some (.cells [.bool t, mv, ev] false 0) := by rw [t3.2 _ (by omega)]; exact g3
  have lb5 : X1.nx < X3.nx := by omega
  generalize X1.nx = b5 at *
  -- the reference's
  refine wsr ?_
  simp only [↓stU, stD, reduceEqDiff, ↓reduceIte, p2, p3, ld3 g2, ld3 g3]
  refine wpo_call ?_
  try simp only [↓stU, stD, reduceEqDiff, ↓reduceIte]
  refine wpf_mono (xSimple H hF4 (P0.same (sS3.trans t3))) ?_
  rintro _ X4 ⟨⟨o2, hr, ho2, hn2⟩, x4⟩
  obtain ⟨u0, u1, u2, rfl, hu⟩ := hr.opt
  have hv := hv.same x4
  have d4 : X4.h.get b5 = some (.cells [v0, v1, v2] false 0) := by rw [x4.2 _ lb5]; exact d3
  have lb5 : b5 < X4.nx := Nat.lt_of_lt_of_le lb5 x4.1
  simp only [↓stU, stD, reduceEqDiff, ↓reduceIte, ex0, ex1]
  refine wpo_alloc ?_
  intro X5 x5 nx5 d5
  have hv := hv.same x5
  have hu := hu.same x5
  try simp only [↓stU, stD, reduceEqDiff, ↓reduceIte]
  refine wpo_st (b := X4.nx) (by simp only [↓stU, stD, reduceEqDiff, ↓reduceIte]) (by simp only [↓stU, stD, reduceEqDiff, ↓reduceIte, cells_agg]; rfl) d5 rfl rfl ?_
  intro X6 x6 nx6 d6
  have hv := hv.st d5 rfl x6 d6
  have hu := hu.st d5 rfl x6 d6
  have d7 : X6.h.get b5 = some (.cells [v0, v1, v2] false 0) := by rw [x6.2 _ (by omega) (by omega), x5.2 _ (by omega)]; exact d4
  have t6 : Same S X6 := x6.same (sS3.trans (t3.trans (x4.trans x5))) (by have := sS3.1; have := t3.1; have := x4.1; omega)
  have ho : o1 = o2 := by
    by_cases h0 : simE (EE s l m t l2 m2) (RQ s l m) (RQ t l2 m2) = 0
    · obtain ⟨q1, rfl, hq1, _⟩ := ho1 h0
      obtain ⟨q2, rfl, hq2, _⟩ := ho2 h0
      rw [best_one hq1 hq2]
    · rw [hn1 h0, hn2 h0]
  rw [← ho] at hu
  have hfit : ∀ q, o1 = some q → FitsR q := fun q hq => by
    by_cases h0 : simE (EE s l m t l2 m2) (RQ s l m) (RQ t l2 m2) = 0
    · obtain ⟨q1, h1, hq1, hpq, hE⟩ := ho1 h0
      rw [hq] at h1
      cases h1
      exact (best_in hpq hq1 (bnd_in (P0.ok hE).2.2.1)).half.fits
    · rw [hn1 h0] at hq; cases hq
  simp only [↓stU, stD, reduceEqDiff, ↓reduceIte]
  refine wsr ?_
  simp only [↓stU, stD, reduceEqDiff, ↓reduceIte, ld3 d7, ld3 d6]
  refine wpo_call ?_
  try simp only [↓stU, stD, reduceEqDiff, ↓reduceIte]
  refine wpf_mono (sameOpt H hv hu hfit) ?_
  rintro _ X7 ⟨rfl, x7⟩
  simp only [↓stU, stD, reduceEqDiff, ↓reduceIte, decide_true]
  refine wpo_call ?_
  try simp only [↓stU, stD, reduceEqDiff, ↓reduceIte]
  refine wpf_mono (haw X7 (hL.same (t6.trans x7))) ?_
  rintro _ X8 ⟨rfl, x8⟩
  try simp only [↓stU, stD, reduceEqDiff, ↓reduceIte]
  refine wpc_ret ?_
  simp only [↓stU, stD, reduceEqDiff, ↓reduceIte]
  exact t6.trans (x7.trans x8)
end Go.Ev.Gl
