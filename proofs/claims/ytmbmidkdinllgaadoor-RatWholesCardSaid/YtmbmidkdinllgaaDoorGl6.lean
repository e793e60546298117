/- Contracts (6): rational numbers, the statements' tools, the law. -/
import Derived.Test.YtmbmidkdinllgaaDoorGl5
open Nat (reduceEqDiff)
set_option maxHeartbeats 4000000
set_option linter.unusedSimpArgs false
set_option linter.unusedVariables false
namespace Go.Ev.Gl
variable {fns : T AFn}

/-! ## The reference's ints and rounding -/
def XSizeI (S : St) (n : Nat) (k : Nat) (A : Act') (S' : St) : Prop :=
  A.inr = false ∧ ∃ (z : Int) (d : List Nat) (u : AV), tmpV 0 A.F = .int .i64 z ∧ z.natAbs = k ∧ -9223372036854775808 ≤ z ∧ z ≤ 9223372036854775807 ∧ tmpV 3 A.F = u ∧ GrIs S S' u d ∧ Same S S' ∧ Small d ∧ val d + B ^ d.length * k = n ∧ (d = [] ∨ B ^ (d.length - 1) ≤ n)
theorem mx_abs (z : Int) : mx z (-z) = (z.natAbs : Int) := by unfold mx; split <;> omega

theorem xsize_spec {S : St} {z : Int} (H : Has fns) (h1 : -9223372036854775808 ≤ z) (h2 : z ≤ 9223372036854775807) : wpf fns (.fn 121 [] []) [.int .i64 z] S fun r S' => NatIs S' r z.natAbs ∧ Same S S' := by
  have hB : B = 1000000000 := rfl
  refine wpf_fn H.f121 (by simp) ?_
  simp only [↓stU, stD, reduceEqDiff, ↓reduceIte]
  refine wsr ?_
  simp only [↓stU, stD, reduceEqDiff, ↓reduceIte]
  refine wsr ?_
  simp only [↓stU, stD, reduceEqDiff, ↓reduceIte]
  refine wpc_seq (wpc_block (wpc_loop (XSizeI S z.natAbs) ?_ z.natAbs _ _ ⟨rfl, z, [], .nilsl, by simp only [↓stU, stD, reduceEqDiff, ↓reduceIte], rfl, h1, h2, by simp only [↓stU, stD, reduceEqDiff, ↓reduceIte], .inl ⟨rfl, rfl⟩, Same.refl S, Small.nil, by simp [val_nil], .inl rfl⟩))
  obtain ⟨n, hn⟩ : ∃ n, z.natAbs = n := ⟨_, rfl⟩
  have hn9 : n ≤ 9223372036854775808 := by omega
  rw [hn]
  clear h1 h2 hn z
  rintro k ⟨F, inr⟩ S' ⟨q0, z, d, u, p0, hk, h1, h2, p3, hg, hS, hsd, hinv, hlow⟩
  simp only at q0 p0 p3
  subst q0
  refine wss ?_
  simp only [↓stU, stD, reduceEqDiff, ↓reduceIte, ↓stV, stW, Nat.reduceAdd, p0]
  by_cases hk0 : 0 < k
  · refine wpc_yes (by simp only [↓stU, stD, reduceEqDiff, ↓reduceIte, ↓stV, stW, Nat.reduceAdd, decide_eq_true (show z ≠ 0 by omega)]) (wpc_skip ?_)
    try simp only [↓stU, stD, reduceEqDiff, ↓reduceIte, ↓stV, stW, Nat.reduceAdd]
    have hrem := bin_rem_t (.p .int) (a := z) (b := 1000000000) (by decide)
    have hquo := bin_quo_t (.p .int) (a := z) (b := 1000000000) (by decide)
    have a1 : (z.tmod 1000000000).natAbs = k % B := by rw [Int.natAbs_tmod, hk]; rfl
    have a2 : (z.tdiv 1000000000).natAbs = k / B := by rw [Int.natAbs_tdiv, hk]; rfl
    have hdm : k / B * B + k % B = k := by rw [Nat.mul_comm]; exact Nat.div_add_mod k B
    have hmod : k % B < 1000000000 := Nat.mod_lt k B_pos
    have hdiv : k / B < k := Nat.div_lt_self hk0 (by decide)
    have hpow : B ^ d.length ≤ n := by
      have : B ^ d.length * 1 ≤ B ^ d.length * k := Nat.mul_le_mul_left _ hk0
      omega
    have hdl : d.length ≤ 100 := by
      rcases Nat.lt_or_ge 100 d.length with h | h
      · have h1 : B ^ 3 ≤ B ^ d.length := Nat.pow_le_pow_right B_pos (by omega)
        have h2 : (18446744073709551615 : Nat) < B ^ 3 := by decide
        omega
      · exact h
    generalize z.tmod 1000000000 = zr at *
    generalize z.tdiv 1000000000 = zq at *
    have w1 : IntKind.i64.wrap (-zr) = -zr := wrap_i64 (by omega) (by omega)
    have w2 : IntKind.i64.wrap zq = zq := wrap_i64 (by omega) (by omega)
    rw [w2] at hquo
    have e1 : (zr.natAbs : Int) = ((k % B : Nat) : Int) := by rw [a1]
    have w3 : IntKind.u32.wrap ((k % B : Nat) : Int) = ((k % B : Nat) : Int) := wrap_u32 (by omega) (by omega)
    generalize k % B = w at *
    generalize k / B = k' at *
    refine wpc_block (wpc_seq (wpc_reg ?_))
    simp only [↓stU, stD, reduceEqDiff, ↓reduceIte, ↓stV, stW, Nat.reduceAdd, p0, hrem]
    obtain ⟨v', S2, happ, hg2, hS2⟩ := hg.app (w := w) (bytes := 4) hS (by unfold room; omega) (by unfold room; omega)
    refine wsr ?_
    simp only [↓stU, stD, reduceEqDiff, ↓reduceIte, ↓stV, stW, Nat.reduceAdd, p3, un_neg_i, w1, evQ_mm, valsOf_cons, valsOf_nil, mm_cons, mm_int, mm_nil, mx_abs, e1, w3]
    rw [evA_one (k := .u32) (n := (w : Int)) (by simp only [↓stU, stD, reduceEqDiff, ↓reduceIte, ↓stV, stW, Nat.reduceAdd])]
    try simp only [↓stU, stD, reduceEqDiff, ↓reduceIte, ↓stV, stW, Nat.reduceAdd]
    refine wpo_x (fun call => by simp only [↓stU, stD, reduceEqDiff, ↓reduceIte, ↓stV, stW, Nat.reduceAdd, evX_app, p3]; exact happ) ?_
    try simp only [↓stU, stD, reduceEqDiff, ↓reduceIte, ↓stV, stW, Nat.reduceAdd]
    refine wpc_reg ?_
    simp only [↓stU, stD, reduceEqDiff, ↓reduceIte, ↓stV, stW, Nat.reduceAdd, p0, hquo]
    refine ⟨k', hdiv, rfl, zq, d ++ [w], v', by simp only [↓stU, stD, reduceEqDiff, ↓reduceIte, ↓stV, stW, Nat.reduceAdd], a2, by omega, by omega, by simp only [↓stU, stD, reduceEqDiff, ↓reduceIte, ↓stV, stW, Nat.reduceAdd], hg2, hS2, Small.append.2 ⟨hsd, small_one hmod⟩, ?_, .inr ?_⟩
    · rw [val_snoc, List.length_append, List.length_singleton, Nat.pow_succ, ← hinv]
      generalize B ^ d.length = P
      have : P * B * k' + P * w = P * k := by rw [Nat.mul_assoc, ← Nat.mul_add, Nat.mul_comm B k', hdm]
      omega
    · rw [show (d ++ [w]).length - 1 = d.length by simp]; exact hpow
  · have hk1 : k = 0 := by omega
    refine wpc_non (by simp only [↓stU, stD, reduceEqDiff, ↓reduceIte, ↓stV, stW, Nat.reduceAdd, decide_eq_false (show ¬ z ≠ 0 by omega)]) (wpc_exit ?_)
    try simp only [↓stU, stD, reduceEqDiff, ↓reduceIte, ↓stV, stW, Nat.reduceAdd]
    refine wsr ?_
    simp only [↓stU, stD, reduceEqDiff, ↓reduceIte, ↓stV, stW, Nat.reduceAdd, p3]
    refine wpc_ret ?_
    simp only [↓stU, stD, reduceEqDiff, ↓reduceIte, ↓stV, stW, Nat.reduceAdd]
    rw [hk1, Nat.mul_zero, Nat.add_zero] at hinv
    exact ⟨⟨d, hg.limbs, norm_of_low hsd (by rw [hinv]; exact hlow), hinv⟩, hS⟩

theorem one_nat {S : St} {b : Nat} (h : S.h.get b = some (.cells [.int .u32 1] false 0)) (hb : b < S.nx) : NatIs S (.sl b 0 1 1 false) 1 := ⟨[1], limbs_own (l := [1]) (o := false) (sz := 0) h hb rfl (Nat.le_refl _), norm_one, val_one⟩
theorem small_pow {n : Nat} (h : n ≤ 9223372036854775808) : n < B ^ 3 := Nat.lt_of_le_of_lt h (by decide)

theorem xwhole_spec {S : St} {z : Int} (H : Has fns) (h1 : -9223372036854775808 ≤ z) (h2 : z ≤ 9223372036854775807) : wpf fns (.fn 89 [] []) [.int .i64 z] S fun r S' => RatIs S' r (z : Rat) ∧ Same S S' := by
  refine wpf_fn H.f89 (by simp) ?_
  simp only [↓stU, stD, reduceEqDiff, ↓reduceIte]
  refine wsr ?_
  refine wpo_alloc ?_
  intro S1 s1 n1 c1
  simp only [↓stU, stD, reduceEqDiff, ↓reduceIte]
  refine wsr ?_
  simp only [↓stU, stD, reduceEqDiff, ↓reduceIte]
  refine wpo_call ?_
  try simp only [↓stU, stD, reduceEqDiff, ↓reduceIte]
  refine wpf_mono (xsize_spec H h1 h2) ?_
  rintro zv S2 ⟨hz, s2⟩
  try simp only [↓stU, stD, reduceEqDiff, ↓reduceIte]
  refine wpo_al (evA_one (k := .u32) (n := (1 : Int)) (by simp only [↓stU, stD, reduceEqDiff, ↓reduceIte])) ?_
  intro S3 s3 n3 c3
  try simp only [↓stU, stD, reduceEqDiff, ↓reduceIte]
  refine wpo_call ?_
  try simp only [↓stU, stD, reduceEqDiff, ↓reduceIte]
  refine wpf_mono (xlowest_spec H (hz.same s3) (one_nat c3 (by omega)) (small_pow (by omega)) (by decide) (by decide) (by decide)) ?_
  rintro v S4 ⟨hv, s4⟩
  obtain ⟨v0, v1, v2, rfl⟩ := hv.cells
  have s14 := s2.trans (s3.trans s4)
  have c4 : S4.h.get S.nx = some (.cells [.bool false, .nilsl, .nilsl] false 0) := by rw [s14.2 _ (by omega)]; exact c1
  try simp only [↓stU, stD, reduceEqDiff, ↓reduceIte]
  refine wpo_st (b := S.nx) (by simp only [↓stU, stD, reduceEqDiff, ↓reduceIte]) (by simp only [↓stU, stD, reduceEqDiff, ↓reduceIte, cells_agg]; rfl) c4 rfl rfl ?_
  intro S5 s5 n5 c5
  simp only [↓stU, stD, reduceEqDiff, ↓reduceIte]
  refine wpc_ret ?_
  simp only [↓stU, stD, reduceEqDiff, ↓reduceIte, results_cell, ld3 c5]
  refine ⟨?_, s5.same (s1.trans s14) (Nat.le_refl _)⟩
  have e : mkRat (sg (decide (z < 0)) z.natAbs) 1 = (z : Rat) := by
    rw [rat_int]
    congr 1
    by_cases h : z < 0
    · rw [decide_eq_true h]; simp [sg]; omega
    · rw [decide_eq_false h]; simp [sg]; omega
  rw [← e]
  exact hv.st c4 rfl s5 c5

theorem dn_bnd {neg : Bool} {p : Rat} {K : Nat} (h : Bnd K p) : dn neg p.num.natAbs p.den < B ^ (K + 1) := dn_lt h.1

/-- rounding down -/
theorem xdown_spec {S : St} {a : AV} {p : Rat} {K : Nat} (H : Has fns) (ha : RatIs S a p) (hp : Bnd K p) (hK : K ≤ 9000) : wpf fns (.fn 85 [] []) [a] S fun r S' => RatIs S' r (flr p : Rat) ∧ Same S S' := by
  obtain ⟨nv, dv, rfl, h1, h2⟩ := ha
  have hd0 : 0 < p.den := by have := p.den_nz; omega
  refine wpf_fn H.f85 (by simp) ?_
  simp only [↓stU, stD, reduceEqDiff, ↓reduceIte]
  refine wsr ?_
  refine wpo_box (by simp only [↓stU, stD, reduceEqDiff, ↓reduceIte, cells_agg]; rfl) ?_
  intro S1 s1 n1 c1
  refine wpo_alloc ?_
  intro S2 s2 n2 c2
  simp only [↓stU, stD, reduceEqDiff, ↓reduceIte]
  have g1 : S2.h.get S.nx = some (.cells [.bool (decide (p.num < 0)), nv, dv] false 0) := by rw [s2.2 _ (by omega)]; exact c1
  have sS := s1.trans s2
  refine wsr ?_
  simp only [↓stU, stD, reduceEqDiff, ↓reduceIte, evQ_faddr, faddr_ptr, ld3_1 g1, ld3_2 g1]
  refine wpo_call ?_
  try simp only [↓stU, stD, reduceEqDiff, ↓reduceIte]
  refine wpf_mono (xover_spec H (h1.same sS) (h2.same sS) hp.1 (by omega) hd0) ?_
  rintro _ S3 ⟨qv, rv, rfl, hq, hr, s3⟩
  simp only [↓stU, stD, reduceEqDiff, ↓reduceIte, ex0, ex1]
  have g3 : S3.h.get S.nx = some (.cells [.bool (decide (p.num < 0)), nv, dv] false 0) := by rw [s3.2 _ (by omega)]; exact g1
  obtain ⟨k, hk, hk0⟩ := lenpos hr
  have hl3 := s3.1
  refine wpc_seq (wpc_mono (Q := fun o A' S4 => o = .normal ∧ A'.inr = false ∧ tmpV 1 A'.F = .ptr S.nx 0 ∧ tmpV 2 A'.F = .ptr S1.nx 0 ∧ Same S3 S4 ∧ NatIs S4 (tmpV 3 A'.F) (dn (decide (p.num < 0)) p.num.natAbs p.den)) (wpc_seq (wpc_reg ?_)) ?_)
  · unfold dn
    by_cases hneg : p.num < 0
    · rw [decide_eq_true hneg] at g3 ⊢
      by_cases hr0 : p.num.natAbs % p.den = 0
      · simp only [↓stU, stD, reduceEqDiff, ↓reduceIte, evQ_faddr, faddr_ptr, ld3_0 g3, hk, decide_eq_false (show ¬ (0 : Int) < (k : Int) by omega)]
        refine wpc_non (by simp only [↓stU, stD, reduceEqDiff, ↓reduceIte]) (wpc_skip ?_)
        simp only [↓stU, stD, reduceEqDiff, ↓reduceIte]
        first | rw [if_neg (fun h => h hr0)] | rw [if_neg (fun h => h.2 hr0)]
        exact ⟨Same.refl _, hq⟩
      · simp only [↓stU, stD, reduceEqDiff, ↓reduceIte, evQ_faddr, faddr_ptr, ld3_0 g3, hk, decide_eq_true (show (0 : Int) < (k : Int) by omega)]
        refine wpc_yes (by simp only [↓stU, stD, reduceEqDiff, ↓reduceIte]) (wpc_reg ?_)
        simp only [↓stU, stD, reduceEqDiff, ↓reduceIte]
        refine wpo_al (evA_one (k := .u32) (n := (1 : Int)) (by simp only [↓stU, stD, reduceEqDiff, ↓reduceIte])) ?_
        intro S4 s4 n4 c4
        try simp only [↓stU, stD, reduceEqDiff, ↓reduceIte]
        refine wpo_call ?_
        try simp only [↓stU, stD, reduceEqDiff, ↓reduceIte]
        have hqB : p.num.natAbs / p.den < B ^ K := Nat.lt_of_le_of_lt (Nat.div_le_self ..) hp.1
        refine wpf_mono (xplus_spec H (hq.same s4) (one_nat c4 (by omega)) (Fits.of hqB (by omega)) (half_lt (by decide)).fits) ?_
        rintro v S5 ⟨hv, s5⟩
        try simp only [↓stU, stD, reduceEqDiff, ↓reduceIte]
        first | rw [if_pos hr0] | rw [if_pos ⟨trivial, hr0⟩] | rw [if_pos ⟨rfl, hr0⟩]
        exact ⟨s4.trans s5, hv⟩
    · rw [decide_eq_false hneg] at g3 ⊢
      simp only [↓stU, stD, reduceEqDiff, ↓reduceIte, evQ_faddr, faddr_ptr, ld3_0 g3, hk]
      refine wpc_non (by simp only [↓stU, stD, reduceEqDiff, ↓reduceIte]) (wpc_skip ?_)
      simp only [↓stU, stD, reduceEqDiff, ↓reduceIte]
      first | rw [if_neg (fun h => by cases h.1)] | skip
      exact ⟨Same.refl _, hq⟩
  rintro o ⟨F, inr⟩ S4 ⟨rfl, q0, p1, p2, s4, hN⟩
  simp only at q0 p1 p2 hN
  subst q0
  try simp only [↓stU, stD, reduceEqDiff, ↓reduceIte]
  have g4 : S4.h.get S.nx = some (.cells [.bool (decide (p.num < 0)), nv, dv] false 0) := by rw [s4.2 _ (by omega)]; exact g3
  have c4 : S4.h.get S1.nx = some (.cells [.bool false, .nilsl, .nilsl] false 0) := by rw [s4.2 _ (by omega), s3.2 _ (by omega)]; exact c2
  have l4 := s4.1
  refine wsr ?_
  simp only [↓stU, stD, reduceEqDiff, ↓reduceIte, p1, p2, evQ_faddr, faddr_ptr, ld3_0 g4]
  refine wpo_al (evA_one (k := .u32) (n := (1 : Int)) (by simp only [↓stU, stD, reduceEqDiff, ↓reduceIte])) ?_
  intro S5 s5 n5 c5
  try simp only [↓stU, stD, reduceEqDiff, ↓reduceIte]
  refine wpo_call ?_
  try simp only [↓stU, stD, reduceEqDiff, ↓reduceIte]
  refine wpf_mono (xlowest_spec H (hN.same s5) (one_nat c5 (by omega)) (dn_bnd hp) (Nat.one_lt_pow (by omega) (by decide)) (by omega) (by decide)) ?_
  rintro v S6 ⟨hv, s6⟩
  obtain ⟨v0, v1, v2, rfl⟩ := hv.cells
  have c6 : S6.h.get S1.nx = some (.cells [.bool false, .nilsl, .nilsl] false 0) := by rw [s6.2 _ (by omega), s5.2 _ (by omega)]; exact c4
  try simp only [↓stU, stD, reduceEqDiff, ↓reduceIte]
  refine wpo_st (b := S1.nx) (by simp only [↓stU, stD, reduceEqDiff, ↓reduceIte, p2]) (by simp only [↓stU, stD, reduceEqDiff, ↓reduceIte, cells_agg]; rfl) c6 rfl rfl ?_
  intro S7 s7 n7 c7
  simp only [↓stU, stD, reduceEqDiff, ↓reduceIte]
  refine wpc_ret ?_
  simp only [↓stU, stD, reduceEqDiff, ↓reduceIte, results_cell, p2, ld3 c7]
  refine ⟨?_, s7.same (sS.trans (s3.trans (s4.trans (s5.trans s6)))) (by omega)⟩
  rw [← floor_sg, ← rat_int]
  exact hv.st c6 rfl s7 c7
end Go.Ev.Gl

namespace Go.Ev.Gl
variable {fns : T AFn}

/-! ## The simplest number: plain facts -/
theorem int_num (z : Int) : ((z : Rat)).num = z ∧ ((z : Rat)).den = 1 := ⟨rfl, rfl⟩
end Go.Ev.Gl

namespace Go.Ev.Gl
variable {fns : T AFn}

/-! ## Operations on one number that is looked at first -/
noncomputable def onePre (ty n bo : Nat) (rest : AC) : AC :=
  .seq (.reg [⟨some 1, .a (.box ty (.t 0)), none, 0⟩, ⟨some 2, .a (.alloc ty [.bool false, .nilsl, .nilsl]), none, 0⟩, ⟨some 3, .q (.mv (.c (.int .i64 (.ofNat 0)))), none, 0⟩])
    (.seq (.seq (.reg [⟨some n, .q (.ld true 3 (.t 1)), none, 0⟩, ⟨some (n + 1), .x (.call (.c (.fn bo [] [])) [.t n]), none, 0⟩, ⟨some 4, .q (.mv (.t (n + 1))), none, 0⟩])
      (.seq (.reg [⟨some (n + 2), .q (.mv (.t 4)), none, 0⟩, ⟨some (n + 3), .q (.bin .neq (.p .int) (.t (n + 2)) (.c (.int .i64 (.ofNat 0)))), none, 0⟩])
        (.cond (.t (n + 3)) (.seq (.reg [⟨some (n + 4), .q (.build [.bool false, .nilsl, .nilsl] []), none, 0⟩, ⟨some (n + 5), .q (.mv (.t 4)), none, 0⟩, ⟨none, .x (.st 3 (.t 2) (.t (n + 4))), none, 0⟩, ⟨some 3, .q (.mv (.t (n + 5))), none, 0⟩]) .ret) .skip))) rest)

theorem one_pre {id nt ty n bo : Nat} {rest : AC} {a0 a1 a2 : AV} {E : Int} {S : St} {Q : AV → St → Prop} (hfn : fns.get id = some ⟨nt, [.cell 2 true 3, .t 3], onePre ty n bo rest⟩) (hnt : 1 ≤ nt) (hn : n = 5 ∨ n = 7)
    (hbo : ∀ S1, Same S S1 → wpf fns (.fn bo [] []) [.agg [a0, a1, a2]] S1 fun r S' => r = .int .i64 E ∧ Same S1 S')
    (herr : E ≠ 0 → ∀ S' r, Same S S' → ResIs S' r none E → Q r S')
    (hgo : E = 0 → ∀ F S4, tmpV 1 F = .ptr S.nx 0 → tmpV 2 F = .ptr (S.nx + 1) 0 → Same S S4 → S.nx + 1 < S4.nx → S4.h.get S.nx = some (.cells [a0, a1, a2] false 0) → S4.h.get (S.nx + 1) = some (.cells [.bool false, .nilsl, .nilsl] false 0) →
      wpc fns rest ⟨F, false⟩ S4 (retQ [.cell 2 true 3, .t 3] Q)) : wpf fns (.fn id [] []) [.agg [a0, a1, a2]] S Q := by
  refine wpf_fn hfn (by simpa using hnt) ?_
  simp only [↓stU, stD, reduceEqDiff, ↓reduceIte]
  unfold onePre
  rcases hn with rfl | rfl
  all_goals
    simp only [Nat.reduceAdd]
    refine wsr ?_
    refine wpo_box (by simp only [↓stU, stD, reduceEqDiff, ↓reduceIte, cells_agg]; rfl) ?_
    intro S1 s1 n1 c1
    refine wpo_alloc ?_
    intro S3 s3 n3 c3
    simp only [↓stU, stD, reduceEqDiff, ↓reduceIte]
    have e1 : S1.nx = S.nx + 1 := n1
    rw [e1] at c3
    have g1 : S3.h.get S.nx = some (.cells [a0, a1, a2] false 0) := by rw [s3.2 _ (by omega)]; exact c1
    have sS := s1.trans s3
    refine wss ?_
    simp only [↓stU, stD, reduceEqDiff, ↓reduceIte, e1, ld3 g1]
    refine wpo_call ?_
    try simp only [↓stU, stD, reduceEqDiff, ↓reduceIte]
    refine wpf_mono (hbo S3 sS) ?_
    rintro _ S4 ⟨rfl, s4⟩
    try simp only [↓stU, stD, reduceEqDiff, ↓reduceIte]
    have k1 : S4.h.get S.nx = some (.cells [a0, a1, a2] false 0) := by rw [s4.2 _ (by omega)]; exact g1
    have k3 : S4.h.get (S.nx + 1) = some (.cells [.bool false, .nilsl, .nilsl] false 0) := by rw [s4.2 _ (by omega)]; exact c3
    have l4 := s4.1
    refine wsr ?_
    simp only [↓stU, stD, reduceEqDiff, ↓reduceIte]
    by_cases hE : E = 0
    · refine wpc_non (by simp only [↓stU, stD, reduceEqDiff, ↓reduceIte, decide_eq_false (show ¬ E ≠ 0 from fun h => h hE)]) (wpc_skip ?_)
      try simp only [↓stU, stD, reduceEqDiff, ↓reduceIte]
      exact hgo hE _ S4 (by simp only [↓stU, stD, reduceEqDiff, ↓reduceIte]) (by simp only [↓stU, stD, reduceEqDiff, ↓reduceIte, e1]) (sS.trans s4) (by omega) k1 k3
    · refine wpc_yes (by simp only [↓stU, stD, reduceEqDiff, ↓reduceIte, decide_eq_true (show E ≠ 0 from hE)]) ?_
      refine wsr ?_
      simp only [↓stU, stD, reduceEqDiff, ↓reduceIte, build0, e1]
      refine wpo_st (b := S.nx + 1) (by simp only [↓stU, stD, reduceEqDiff, ↓reduceIte]) (by simp only [↓stU, stD, reduceEqDiff, ↓reduceIte, cells_agg]; rfl) k3 rfl rfl ?_
      intro S5 s5 n5 c5
      simp only [↓stU, stD, reduceEqDiff, ↓reduceIte]
      refine wpc_ret ?_
      simp only [↓stU, stD, reduceEqDiff, ↓reduceIte, results_cell, ld3 c5]
      exact herr hE S5 _ (s5.same (sS.trans s4) (by omega)) ⟨_, _, _, rfl, rfl, rfl, rfl⟩

/-- a number that is handed over -/
structure Solo (S : St) (a : AV) (E : Int) (p : Rat) : Prop where
  raw : ∃ s l m, RawIs S a s l m ∧ E = rchk s l m
  ok : E = 0 → RatIs S a p ∧ Bnd 30 p
theorem Solo.same {S S' : St} {a : AV} {E : Int} {p : Rat} (h : Solo S a E p) (hs : Same S S') : Solo S' a E p := by
  obtain ⟨⟨s, l, m, h1, h2⟩, h3⟩ := h
  exact ⟨⟨s, l, m, h1.same hs, h2⟩, fun hE => ⟨(h3 hE).1.same hs, (h3 hE).2⟩⟩
theorem solo_of {S : St} {a : AV} {s : Bool} {l m : List Nat} (h : RawIs S a s l m) (hl : longB l m = false) : Solo S a (rchk s l m) (RQ s l m) := by
  obtain ⟨k1, k2, _, _⟩ := long_not hl
  exact ⟨⟨s, l, m, h, rfl⟩, fun hE => raw_rat h hE k1 k2⟩
section
variable {S : St} {a : AV} {E : Int} {p : Rat}
theorem Solo.cells (h : Solo S a E p) : ∃ a0 a1 a2, a = .agg [a0, a1, a2] := by
  obtain ⟨⟨s, l, m, h1, _⟩, _⟩ := h
  exact h1.cells
theorem Solo.check (H : Has fns) (hL : Laid S) (h : Solo S a E p) : ∀ S1, Same S S1 → wpf fns (.fn 31 [] []) [a] S1 fun r S' => r = .int .i64 E ∧ Same S1 S' := by
  obtain ⟨⟨s, l, m, h1, h2⟩, _⟩ := h
  intro S1 hs
  rw [h2]
  exact check_spec H (hL.same hs) (h1.same hs)
theorem Solo.xcheck (H : Has fns) (h : Solo S a E p) : ∀ S1, Same S S1 → wpf fns (.fn 32 [] []) [a] S1 fun r S' => r = .int .i64 E ∧ Same S1 S' := by
  obtain ⟨⟨s, l, m, h1, h2⟩, _⟩ := h
  intro S1 hs
  rw [h2]
  exact rxcheck_spec H (h1.same hs)
theorem fl_in {q : Rat} (h : Bnd 30 q) : InBound (flr q : Rat) := by
  refine ⟨?_, one_lt_B 1024 (by decide)⟩
  rw [show ((flr q : Rat)).num = flr q from rfl, ← floor_sg, sg_natAbs]
  exact lt_pow_up (j := 1024) (dn_lt h.1) (by decide)
theorem cel_in {q : Rat} (h : Bnd 30 q) : InBound (cel q : Rat) := by
  refine ⟨?_, one_lt_B 1024 (by decide)⟩
  rw [show ((cel q : Rat)).num = cel q from rfl, ← ceil_sg, sg_natAbs]
  exact lt_pow_up (j := 1024) (dn_lt h.1) (by decide)

theorem pfloor (H : Has fns) (hL : Laid S) (h : Solo S a E p) : wpf fns (.fn 36 [] []) [a] S fun r S' => ResIs S' r (opt E (flr p : Rat)) E ∧ Same S S' := by
  obtain ⟨a0, a1, a2, rfl⟩ := h.cells
  by_cases hE : E = 0
  · obtain ⟨h1, h2⟩ := h.ok hE
    subst hE
    refine wpf_mono (rfloor_spec H hL h1 (bnd_in h2) (fl_in h2)) ?_
    rintro r S' ⟨v, rfl, hv, hs⟩
    exact ⟨res_ok hv, hs⟩
  · rw [opt_no hE]
    exact one_pre (n := 5) H.f36 (by decide) (.inl rfl) (h.check H hL) (fun _ S' r hs hr => ⟨hr, hs⟩) (fun h => absurd h hE)
theorem pceil (H : Has fns) (hL : Laid S) (h : Solo S a E p) : wpf fns (.fn 37 [] []) [a] S fun r S' => ResIs S' r (opt E (cel p : Rat)) E ∧ Same S S' := by
  obtain ⟨a0, a1, a2, rfl⟩ := h.cells
  by_cases hE : E = 0
  · obtain ⟨h1, h2⟩ := h.ok hE
    subst hE
    refine wpf_mono (rceil_spec H hL h1 (bnd_in h2) (cel_in h2)) ?_
    rintro r S' ⟨v, rfl, hv, hs⟩
    exact ⟨res_ok hv, hs⟩
  · rw [opt_no hE]
    exact one_pre (n := 7) H.f37 (by decide) (.inr rfl) (h.check H hL) (fun _ S' r hs hr => ⟨hr, hs⟩) (fun h => absurd h hE)

theorem xup_spec (H : Has fns) {K : Nat} (ha : RatIs S a p) (hp : Bnd K p) (hK : K ≤ 9000) : wpf fns (.fn 86 [] []) [a] S fun r S' => RatIs S' r (cel p : Rat) ∧ Same S S' := by
  obtain ⟨a0, a1, a2, rfl⟩ := ha.cells
  refine wpf_fn H.f86 (by simp) ?_
  simp only [↓stU, stD, reduceEqDiff, ↓reduceIte]
  refine wsr ?_
  refine wpo_box (by simp only [↓stU, stD, reduceEqDiff, ↓reduceIte, cells_agg]; rfl) ?_
  intro S1 s1 n1 c1
  refine wpo_alloc ?_
  intro S2 s2 n2 c2
  simp only [↓stU, stD, reduceEqDiff, ↓reduceIte]
  have g1 : S2.h.get S.nx = some (.cells [a0, a1, a2] false 0) := by rw [s2.2 _ (by omega)]; exact c1
  have sS := s1.trans s2
  refine wsr ?_
  simp only [↓stU, stD, reduceEqDiff, ↓reduceIte, ld3 g1]
  refine wpo_call ?_
  try simp only [↓stU, stD, reduceEqDiff, ↓reduceIte]
  refine wpf_mono (xneg_spec H (ha.same sS)) ?_
  rintro v3 S3 ⟨h3, s3⟩
  try simp only [↓stU, stD, reduceEqDiff, ↓reduceIte]
  refine wpo_call ?_
  try simp only [↓stU, stD, reduceEqDiff, ↓reduceIte]
  refine wpf_mono (xdown_spec H h3 hp.neg hK) ?_
  rintro v4 S4 ⟨h4, s4⟩
  try simp only [↓stU, stD, reduceEqDiff, ↓reduceIte]
  refine wpo_call ?_
  try simp only [↓stU, stD, reduceEqDiff, ↓reduceIte]
  refine wpf_mono (xneg_spec H h4) ?_
  rintro v5 S5 ⟨h5, s5⟩
  obtain ⟨v0, v1, v2, rfl⟩ := h5.cells
  have c5 : S5.h.get S1.nx = some (.cells [.bool false, .nilsl, .nilsl] false 0) := by rw [(s3.trans (s4.trans s5)).2 _ (by omega)]; exact c2
  try simp only [↓stU, stD, reduceEqDiff, ↓reduceIte]
  refine wpo_st (b := S1.nx) (by simp only [↓stU, stD, reduceEqDiff, ↓reduceIte]) (by simp only [↓stU, stD, reduceEqDiff, ↓reduceIte, cells_agg]; rfl) c5 rfl rfl ?_
  intro S6 s6 n6 c6
  simp only [↓stU, stD, reduceEqDiff, ↓reduceIte]
  refine wpc_ret ?_
  simp only [↓stU, stD, reduceEqDiff, ↓reduceIte, results_cell, ld3 c6]
  refine ⟨?_, s6.same (sS.trans (s3.trans (s4.trans s5))) (by omega)⟩
  have e : ((cel p : Int) : Rat) = -((flr (-p) : Int) : Rat) := by
    unfold cel flr
    rw [Rat.neg_num, Rat.neg_den, Rat.intCast_neg]
  rw [e]
  exact h5.st c5 rfl s6 c6

theorem xfloor (H : Has fns) (h : Solo S a E p) : wpf fns (.fn 43 [] []) [a] S fun r S' => ResIs S' r (opt E (flr p : Rat)) E ∧ Same S S' := by
  obtain ⟨a0, a1, a2, rfl⟩ := h.cells
  refine one_pre (n := 5) H.f43 (by decide) (.inl rfl) (h.xcheck H) (fun hE S' r hs hr => ⟨by rw [opt_no hE]; exact hr, hs⟩) (fun hE F S4 p1 p2 s4 l4 k1 k3 => ?_)
  obtain ⟨h1, h2⟩ := h.ok hE
  subst hE
  refine wsr ?_
  simp only [↓stU, stD, reduceEqDiff, ↓reduceIte, p1, ld3 k1]
  refine wpo_call ?_
  try simp only [↓stU, stD, reduceEqDiff, ↓reduceIte]
  refine wpf_mono (xdown_spec H (h1.same s4) h2 (by decide)) ?_
  rintro v5 S5 ⟨hv5, s5⟩
  try simp only [↓stU, stD, reduceEqDiff, ↓reduceIte]
  refine wpo_call ?_
  try simp only [↓stU, stD, reduceEqDiff, ↓reduceIte]
  refine wpf_mono (xfits_spec H hv5 (fl_in h2)) ?_
  rintro _ S6 ⟨u, rfl, hu, s6⟩
  obtain ⟨c0, c1, c2, rfl⟩ := hu.cells
  have k6 : S6.h.get (S.nx + 1) = some (.cells [.bool false, .nilsl, .nilsl] false 0) := by rw [(s5.trans s6).2 _ (by omega)]; exact k3
  simp only [↓stU, stD, reduceEqDiff, ↓reduceIte, ex0, ex1, p2]
  refine wpo_st (b := S.nx + 1) (by simp only [↓stU, stD, reduceEqDiff, ↓reduceIte, p2]) (by simp only [↓stU, stD, reduceEqDiff, ↓reduceIte, cells_agg]; rfl) k6 rfl rfl ?_
  intro S7 s7 n7 c7
  simp only [↓stU, stD, reduceEqDiff, ↓reduceIte]
  refine wpc_ret ?_
  simp only [↓stU, stD, reduceEqDiff, ↓reduceIte, results_cell, p2, ld3 c7]
  exact ⟨⟨_, _, _, rfl, hu.st k6 rfl s7 c7⟩, s7.same (s4.trans (s5.trans s6)) (by omega)⟩
theorem xceil (H : Has fns) (h : Solo S a E p) : wpf fns (.fn 44 [] []) [a] S fun r S' => ResIs S' r (opt E (cel p : Rat)) E ∧ Same S S' := by
  obtain ⟨a0, a1, a2, rfl⟩ := h.cells
  refine one_pre (n := 5) H.f44 (by decide) (.inl rfl) (h.xcheck H) (fun hE S' r hs hr => ⟨by rw [opt_no hE]; exact hr, hs⟩) (fun hE F S4 p1 p2 s4 l4 k1 k3 => ?_)
  obtain ⟨h1, h2⟩ := h.ok hE
  subst hE
  refine wsr ?_
  simp only [↓stU, stD, reduceEqDiff, ↓reduceIte, p1, ld3 k1]
  refine wpo_call ?_
  try simp only [↓stU, stD, reduceEqDiff, ↓reduceIte]
  refine wpf_mono (xup_spec H (h1.same s4) h2 (by decide)) ?_
  rintro v5 S5 ⟨hv5, s5⟩
  try simp only [↓stU, stD, reduceEqDiff, ↓reduceIte]
  refine wpo_call ?_
  try simp only [↓stU, stD, reduceEqDiff, ↓reduceIte]
  refine wpf_mono (xfits_spec H hv5 (cel_in h2)) ?_
  rintro _ S6 ⟨u, rfl, hu, s6⟩
  obtain ⟨c0, c1, c2, rfl⟩ := hu.cells
  have k6 : S6.h.get (S.nx + 1) = some (.cells [.bool false, .nilsl, .nilsl] false 0) := by rw [(s5.trans s6).2 _ (by omega)]; exact k3
  simp only [↓stU, stD, reduceEqDiff, ↓reduceIte, ex0, ex1, p2]
  refine wpo_st (b := S.nx + 1) (by simp only [↓stU, stD, reduceEqDiff, ↓reduceIte, p2]) (by simp only [↓stU, stD, reduceEqDiff, ↓reduceIte, cells_agg]; rfl) k6 rfl rfl ?_
  intro S7 s7 n7 c7
  simp only [↓stU, stD, reduceEqDiff, ↓reduceIte]
  refine wpc_ret ?_
  simp only [↓stU, stD, reduceEqDiff, ↓reduceIte, results_cell, p2, ld3 c7]
  exact ⟨⟨_, _, _, rfl, hu.st k6 rfl s7 c7⟩, s7.same (s4.trans (s5.trans s6)) (by omega)⟩
end
end Go.Ev.Gl

namespace Go.Ev.Gl
variable {fns : T AFn}

/-! ## Quotients of ints, as numbers -/
theorem psize_spec {S : St} {z : Int} (H : Has fns) (h1 : -9223372036854775808 ≤ z) (h2 : z ≤ 9223372036854775807) : wpf fns (.fn 82 [] []) [.int .i64 z] S fun r S' => r = .int .u64 ((z.natAbs : Nat) : Int) ∧ S' = S := by
  refine wpf_fn H.f82 (by simp) ?_
  simp only [↓stU, stD, reduceEqDiff, ↓reduceIte]
  refine wsr ?_
  simp only [↓stU, stD, reduceEqDiff, ↓reduceIte]
  refine wss ?_
  simp only [↓stU, stD, reduceEqDiff, ↓reduceIte]
  by_cases hz : z < 0
  · refine wpc_yes (by simp only [↓stU, stD, reduceEqDiff, ↓reduceIte, decide_eq_true hz]) ?_
    have w1 : IntKind.u64.wrap z = ((2 ^ 64 - z.natAbs : Nat) : Int) := by
      simp only [IntKind.wrap, IntKind.signed, IntKind.bits, Bool.false_and, Bool.false_eq_true, if_false]
      omega
    have hneg := un_neg64 (a := 2 ^ 64 - z.natAbs) (by omega) (by omega)
    rw [show 2 ^ 64 - (2 ^ 64 - z.natAbs) = z.natAbs by omega] at hneg
    refine wsr ?_
    simp only [↓stU, stD, reduceEqDiff, ↓reduceIte, w1, hneg]
    refine wpc_ret ?_
    simp only [↓stU, stD, reduceEqDiff, ↓reduceIte]
  · refine wpc_non (by simp only [↓stU, stD, reduceEqDiff, ↓reduceIte, decide_eq_false hz]) (wpc_skip ?_)
    try simp only [↓stU, stD, reduceEqDiff, ↓reduceIte]
    have w1 : IntKind.u64.wrap z = ((z.natAbs : Nat) : Int) := by rw [wrap_u64 (by omega) (by omega)]; omega
    refine wsr ?_
    simp only [↓stU, stD, reduceEqDiff, ↓reduceIte, w1]
    refine wpc_ret ?_
    simp only [↓stU, stD, reduceEqDiff, ↓reduceIte]

def ratio (a b : Int) : Rat := mkRat (sg (decide (a < 0) != decide (b < 0)) a.natAbs) b.natAbs
theorem ratio_bnd (a b : Int) (h1 : a.natAbs ≤ 9223372036854775808) (h2 : b.natAbs ≤ 9223372036854775808) (hb : b ≠ 0) : Bnd 3 (ratio a b) := by
  obtain ⟨k1, k2⟩ := mkRat_le (n := sg (decide (a < 0) != decide (b < 0)) a.natAbs) (d := b.natAbs) (by omega)
  rw [sg_natAbs] at k1
  exact ⟨Nat.lt_of_le_of_lt k1 (small_pow h1), Nat.lt_of_le_of_lt k2 (small_pow h2)⟩
def ofE (b : Int) : Int := if b = 0 then 6 else 0

section
variable {S : St} {a b : Int}
theorem pof (H : Has fns) (hL : Laid S) (a1 : -9223372036854775808 ≤ a) (a2 : a ≤ 9223372036854775807) (b1 : -9223372036854775808 ≤ b) (b2 : b ≤ 9223372036854775807) : wpf fns (.fn 39 [] []) [.int .i64 a, .int .i64 b] S fun r S' => ResIs S' r (opt (ofE b) (ratio a b)) (ofE b) ∧ Same S S' := by
  refine wpf_fn H.f39 (by simp) ?_
  simp only [↓stU, stD, reduceEqDiff, ↓reduceIte]
  refine wsr ?_
  refine wpo_alloc ?_
  intro S1 s1 n1 c1
  simp only [↓stU, stD, reduceEqDiff, ↓reduceIte]
  refine wss ?_
  simp only [↓stU, stD, reduceEqDiff, ↓reduceIte]
  unfold ofE
  by_cases hb : b = 0
  · rw [if_pos hb, opt_no (by decide)]
    refine wpc_yes (by simp only [↓stU, stD, reduceEqDiff, ↓reduceIte, decide_eq_true hb]) ?_
    refine wsr ?_
    simp only [↓stU, stD, reduceEqDiff, ↓reduceIte, build0]
    refine wpo_st (b := S.nx) (by simp only [↓stU, stD, reduceEqDiff, ↓reduceIte]) (by simp only [↓stU, stD, reduceEqDiff, ↓reduceIte, cells_agg]; rfl) c1 rfl rfl ?_
    intro S2 s2 n2 c2
    simp only [↓stU, stD, reduceEqDiff, ↓reduceIte]
    refine wpc_ret ?_
    simp only [↓stU, stD, reduceEqDiff, ↓reduceIte, results_cell, ld3 c2]
    exact ⟨⟨_, _, _, rfl, rfl, rfl, rfl⟩, s2.same s1 (Nat.le_refl _)⟩
  rw [if_neg hb, opt_ok]
  refine wpc_non (by simp only [↓stU, stD, reduceEqDiff, ↓reduceIte, decide_eq_false hb]) (wpc_skip ?_)
  try simp only [↓stU, stD, reduceEqDiff, ↓reduceIte]
  refine wsr ?_
  simp only [↓stU, stD, reduceEqDiff, ↓reduceIte, ne_bool]
  refine wpo_call ?_
  try simp only [↓stU, stD, reduceEqDiff, ↓reduceIte]
  refine wpf_mono (psize_spec H a1 a2) ?_
  rintro _ S2 ⟨rfl, hS2⟩
  rw [hS2]
  try simp only [↓stU, stD, reduceEqDiff, ↓reduceIte]
  refine wpo_call ?_
  try simp only [↓stU, stD, reduceEqDiff, ↓reduceIte]
  refine wpf_mono (of_spec H.f81 (by omega)) ?_
  rintro xv S3 ⟨hx, s3⟩
  try simp only [↓stU, stD, reduceEqDiff, ↓reduceIte]
  refine wpo_call ?_
  try simp only [↓stU, stD, reduceEqDiff, ↓reduceIte]
  refine wpf_mono (psize_spec H b1 b2) ?_
  rintro _ S4 ⟨rfl, hS4⟩
  rw [hS4]
  try simp only [↓stU, stD, reduceEqDiff, ↓reduceIte]
  refine wpo_call ?_
  try simp only [↓stU, stD, reduceEqDiff, ↓reduceIte]
  refine wpf_mono (of_spec H.f81 (by omega)) ?_
  rintro yv S5 ⟨hy, s5⟩
  try simp only [↓stU, stD, reduceEqDiff, ↓reduceIte]
  refine wpo_call ?_
  try simp only [↓stU, stD, reduceEqDiff, ↓reduceIte]
  have FX : ∀ {n : Nat}, n ≤ 9223372036854775808 → Fits n := fun h => Fits.of (small_pow h) (by decide)
  refine wpf_mono (ratio_spec H (hL.same (s1.trans (s3.trans s5))) (hx.same s5) hy (FX (by omega)) (FX (by omega)) (by omega)) ?_
  rintro v S6 ⟨hv, s6⟩
  obtain ⟨v0, v1, v2, rfl⟩ := hv.cells
  have s16 := s3.trans (s5.trans s6)
  have c6 : S6.h.get S.nx = some (.cells [.bool false, .nilsl, .nilsl] false 0) := by rw [s16.2 _ (by omega)]; exact c1
  try simp only [↓stU, stD, reduceEqDiff, ↓reduceIte]
  refine wpo_st (b := S.nx) (by simp only [↓stU, stD, reduceEqDiff, ↓reduceIte]) (by simp only [↓stU, stD, reduceEqDiff, ↓reduceIte, cells_agg]; rfl) c6 rfl rfl ?_
  intro S7 s7 n7 c7
  simp only [↓stU, stD, reduceEqDiff, ↓reduceIte]
  refine wpc_ret ?_
  simp only [↓stU, stD, reduceEqDiff, ↓reduceIte, results_cell, ld3 c7]
  exact ⟨⟨_, _, _, rfl, hv.st c6 rfl s7 c7⟩, s7.same (s1.trans s16) (Nat.le_refl _)⟩

theorem xratio_spec (H : Has fns) (a1 : -9223372036854775808 ≤ a) (a2 : a ≤ 9223372036854775807) (b1 : -9223372036854775808 ≤ b) (b2 : b ≤ 9223372036854775807) (hb : b ≠ 0) : wpf fns (.fn 83 [] []) [.int .i64 a, .int .i64 b] S fun r S' => RatIs S' r (ratio a b) ∧ Same S S' := by
  refine wpf_fn H.f83 (by simp) ?_
  simp only [↓stU, stD, reduceEqDiff, ↓reduceIte]
  refine wsr ?_
  refine wpo_alloc ?_
  intro S1 s1 n1 c1
  simp only [↓stU, stD, reduceEqDiff, ↓reduceIte]
  refine wsr ?_
  simp only [↓stU, stD, reduceEqDiff, ↓reduceIte, ne_bool]
  refine wpo_call ?_
  try simp only [↓stU, stD, reduceEqDiff, ↓reduceIte]
  refine wpf_mono (xsize_spec H a1 a2) ?_
  rintro xv S3 ⟨hx, s3⟩
  try simp only [↓stU, stD, reduceEqDiff, ↓reduceIte]
  refine wpo_call ?_
  try simp only [↓stU, stD, reduceEqDiff, ↓reduceIte]
  refine wpf_mono (xsize_spec H b1 b2) ?_
  rintro yv S5 ⟨hy, s5⟩
  try simp only [↓stU, stD, reduceEqDiff, ↓reduceIte]
  refine wpo_call ?_
  try simp only [↓stU, stD, reduceEqDiff, ↓reduceIte]
  refine wpf_mono (xlowest_spec H (hx.same s5) hy (small_pow (by omega)) (small_pow (by omega)) (by decide) (by omega)) ?_
  rintro v S6 ⟨hv, s6⟩
  obtain ⟨v0, v1, v2, rfl⟩ := hv.cells
  have s16 := s3.trans (s5.trans s6)
  have c6 : S6.h.get S.nx = some (.cells [.bool false, .nilsl, .nilsl] false 0) := by rw [s16.2 _ (by omega)]; exact c1
  try simp only [↓stU, stD, reduceEqDiff, ↓reduceIte]
  refine wpo_st (b := S.nx) (by simp only [↓stU, stD, reduceEqDiff, ↓reduceIte]) (by simp only [↓stU, stD, reduceEqDiff, ↓reduceIte, cells_agg]; rfl) c6 rfl rfl ?_
  intro S7 s7 n7 c7
  simp only [↓stU, stD, reduceEqDiff, ↓reduceIte]
  refine wpc_ret ?_
  simp only [↓stU, stD, reduceEqDiff, ↓reduceIte, results_cell, ld3 c7]
  exact ⟨hv.st c6 rfl s7 c7, s7.same (s1.trans s16) (Nat.le_refl _)⟩

theorem xof (H : Has fns) (a1 : -9223372036854775808 ≤ a) (a2 : a ≤ 9223372036854775807) (b1 : -9223372036854775808 ≤ b) (b2 : b ≤ 9223372036854775807) : wpf fns (.fn 40 [] []) [.int .i64 a, .int .i64 b] S fun r S' => ResIs S' r (opt (ofE b) (ratio a b)) (ofE b) ∧ Same S S' := by
  refine wpf_fn H.f40 (by simp) ?_
  simp only [↓stU, stD, reduceEqDiff, ↓reduceIte]
  refine wsr ?_
  refine wpo_alloc ?_
  intro S1 s1 n1 c1
  simp only [↓stU, stD, reduceEqDiff, ↓reduceIte]
  refine wss ?_
  simp only [↓stU, stD, reduceEqDiff, ↓reduceIte]
  unfold ofE
  by_cases hb : b = 0
  · rw [if_pos hb, opt_no (by decide)]
    refine wpc_yes (by simp only [↓stU, stD, reduceEqDiff, ↓reduceIte, decide_eq_true hb]) ?_
    refine wsr ?_
    simp only [↓stU, stD, reduceEqDiff, ↓reduceIte, build0]
    refine wpo_st (b := S.nx) (by simp only [↓stU, stD, reduceEqDiff, ↓reduceIte]) (by simp only [↓stU, stD, reduceEqDiff, ↓reduceIte, cells_agg]; rfl) c1 rfl rfl ?_
    intro S2 s2 n2 c2
    simp only [↓stU, stD, reduceEqDiff, ↓reduceIte]
    refine wpc_ret ?_
    simp only [↓stU, stD, reduceEqDiff, ↓reduceIte, results_cell, ld3 c2]
    exact ⟨⟨_, _, _, rfl, rfl, rfl, rfl⟩, s2.same s1 (Nat.le_refl _)⟩
  rw [if_neg hb, opt_ok]
  refine wpc_non (by simp only [↓stU, stD, reduceEqDiff, ↓reduceIte, decide_eq_false hb]) (wpc_skip ?_)
  try simp only [↓stU, stD, reduceEqDiff, ↓reduceIte]
  refine wsr ?_
  simp only [↓stU, stD, reduceEqDiff, ↓reduceIte]
  refine wpo_call ?_
  try simp only [↓stU, stD, reduceEqDiff, ↓reduceIte]
  refine wpf_mono (xratio_spec H a1 a2 b1 b2 hb) ?_
  rintro v S6 ⟨hv, s6⟩
  obtain ⟨v0, v1, v2, rfl⟩ := hv.cells
  have c6 : S6.h.get S.nx = some (.cells [.bool false, .nilsl, .nilsl] false 0) := by rw [s6.2 _ (by omega)]; exact c1
  try simp only [↓stU, stD, reduceEqDiff, ↓reduceIte]
  refine wpo_st (b := S.nx) (by simp only [↓stU, stD, reduceEqDiff, ↓reduceIte]) (by simp only [↓stU, stD, reduceEqDiff, ↓reduceIte, cells_agg]; rfl) c6 rfl rfl ?_
  intro S7 s7 n7 c7
  simp only [↓stU, stD, reduceEqDiff, ↓reduceIte]
  refine wpc_ret ?_
  simp only [↓stU, stD, reduceEqDiff, ↓reduceIte, results_cell, ld3 c7]
  exact ⟨⟨_, _, _, rfl, hv.st c6 rfl s7 c7⟩, s7.same (s1.trans s6) (Nat.le_refl _)⟩
end

/-! ## Make -/
noncomputable def mkPre (ty bo : Nat) (rest : AC) : AC :=
  .seq (.reg [⟨some 6, .a (.alloc ty [.bool false, .nilsl, .nilsl]), none, 0⟩, ⟨some 7, .q (.mv (.c (.int .i64 (.ofNat 0)))), none, 0⟩])
    (.seq (.seq (.reg [⟨some 9, .q (.mv (.t 1)), none, 0⟩, ⟨some 10, .q (.mv (.t 2)), none, 0⟩, ⟨some 11, .x (.call (.c (.fn bo [] [])) [.t 9, .t 10]), none, 0⟩, ⟨some 8, .q (.mv (.t 11)), none, 0⟩])
      (.seq (.reg [⟨some 12, .q (.mv (.t 8)), none, 0⟩, ⟨some 13, .q (.bin .neq (.p .int) (.t 12) (.c (.int .i64 (.ofNat 0)))), none, 0⟩])
        (.cond (.t 13) (.seq (.reg [⟨some 14, .q (.build [.bool false, .nilsl, .nilsl] []), none, 0⟩, ⟨some 15, .q (.mv (.t 8)), none, 0⟩, ⟨none, .x (.st 3 (.t 6) (.t 14)), none, 0⟩, ⟨some 7, .q (.mv (.t 15)), none, 0⟩]) .ret) .skip))) rest)
theorem mk_pre {id nt ty bo : Nat} {rest : AC} {u v w : AV} {E : Int} {S : St} {Q : AV → St → Prop} (hfn : fns.get id = some ⟨nt, [.cell 6 true 3, .t 7], mkPre ty bo rest⟩) (hnt : 3 ≤ nt)
    (hbo : ∀ S1, Same S S1 → wpf fns (.fn bo [] []) [v, w] S1 fun r S' => r = .int .i64 E ∧ S' = S1)
    (herr : E ≠ 0 → ∀ S' r, Same S S' → ResIs S' r none E → Q r S')
    (hgo : E = 0 → ∀ F S4, tmpV 0 F = u → tmpV 1 F = v → tmpV 2 F = w → tmpV 6 F = .ptr S.nx 0 → Same S S4 → S4.nx = S.nx + 1 → S4.h.get S.nx = some (.cells [.bool false, .nilsl, .nilsl] false 0) →
      wpc fns rest ⟨F, false⟩ S4 (retQ [.cell 6 true 3, .t 7] Q)) : wpf fns (.fn id [] []) [u, v, w] S Q := by
  refine wpf_fn hfn (by simpa using hnt) ?_
  simp only [↓stU, stD, reduceEqDiff, ↓reduceIte]
  unfold mkPre
  refine wsr ?_
  refine wpo_alloc ?_
  intro S1 s1 n1 c1
  simp only [↓stU, stD, reduceEqDiff, ↓reduceIte]
  refine wss ?_
  simp only [↓stU, stD, reduceEqDiff, ↓reduceIte]
  refine wpo_call ?_
  try simp only [↓stU, stD, reduceEqDiff, ↓reduceIte]
  refine wpf_mono (hbo S1 s1) ?_
  rintro _ S4 ⟨rfl, hS4⟩
  rw [hS4]
  try simp only [↓stU, stD, reduceEqDiff, ↓reduceIte]
  refine wsr ?_
  simp only [↓stU, stD, reduceEqDiff, ↓reduceIte]
  by_cases hE : E = 0
  · refine wpc_non (by simp only [↓stU, stD, reduceEqDiff, ↓reduceIte, decide_eq_false (show ¬ E ≠ 0 from fun h => h hE)]) (wpc_skip ?_)
    try simp only [↓stU, stD, reduceEqDiff, ↓reduceIte]
    exact hgo hE _ S1 (by simp only [↓stU, stD, reduceEqDiff, ↓reduceIte]) (by simp only [↓stU, stD, reduceEqDiff, ↓reduceIte]) (by simp only [↓stU, stD, reduceEqDiff, ↓reduceIte]) (by simp only [↓stU, stD, reduceEqDiff, ↓reduceIte]) s1 n1 c1
  · refine wpc_yes (by simp only [↓stU, stD, reduceEqDiff, ↓reduceIte, decide_eq_true (show E ≠ 0 from hE)]) ?_
    refine wsr ?_
    simp only [↓stU, stD, reduceEqDiff, ↓reduceIte, build0]
    refine wpo_st (b := S.nx) (by simp only [↓stU, stD, reduceEqDiff, ↓reduceIte]) (by simp only [↓stU, stD, reduceEqDiff, ↓reduceIte, cells_agg]; rfl) c1 rfl rfl ?_
    intro S5 s5 n5 c5
    simp only [↓stU, stD, reduceEqDiff, ↓reduceIte]
    refine wpc_ret ?_
    simp only [↓stU, stD, reduceEqDiff, ↓reduceIte, results_cell, ld3 c5]
    exact herr hE S5 _ (s5.same s1 (Nat.le_refl _)) ⟨_, _, _, rfl, rfl, rfl, rfl⟩

section
variable {S : St} {v w : AV} {s : Bool} {l m : List Nat}
theorem pmake (H : Has fns) (hL : Laid S) (hv : LimbIs S v l) (hw : LimbIs S w m) : wpf fns (.fn 41 [] []) [.bool s, v, w] S fun r S' => ResIs S' r (opt (partsE l m) (RQ s l m)) (partsE l m) ∧ Same S S' := by
  by_cases hE : partsE l m = 0
  · obtain ⟨⟨a1, a2⟩, ⟨b1, b2⟩, b3⟩ := partsE_zero.1 hE
    rw [hE, opt_ok]
    have hm0 : val m ≠ 0 := fun e => b3 ((norm_zero b2).1 e)
    refine wpf_mono (make_spec H hL ⟨l, hv, a2, rfl⟩ ⟨m, hw, b2, rfl⟩ ((norm_len_iff a2 1024).1 a1) ((norm_len_iff b2 1024).1 b1) (by omega)) ?_
    rintro r S' ⟨u, rfl, hu, hs⟩
    exact ⟨res_ok hu, hs⟩
  · rw [opt_no hE]
    exact mk_pre H.f41 (by decide) (fun S1 hs => parts_spec H (hv.same hs) (hw.same hs)) (fun _ S' r hs hr => ⟨hr, hs⟩) (fun h => absurd h hE)
theorem xmake (H : Has fns) (hv : LimbIs S v l) (hw : LimbIs S w m) : wpf fns (.fn 42 [] []) [.bool s, v, w] S fun r S' => ResIs S' r (opt (partsE l m) (RQ s l m)) (partsE l m) ∧ Same S S' := by
  refine mk_pre H.f42 (by decide) (fun S1 hs => xparts_spec H (hv.same hs) (hw.same hs)) (fun hE S' r hs hr => ⟨by rw [opt_no hE]; exact hr, hs⟩) (fun hE F S4 p0 p1 p2 p6 s4 n4 k4 => ?_)
  obtain ⟨⟨a1, a2⟩, ⟨b1, b2⟩, b3⟩ := partsE_zero.1 hE
  rw [hE, opt_ok]
  have hm0 : val m ≠ 0 := fun e => b3 ((norm_zero b2).1 e)
  have hb1 := (norm_len_iff a2 1024).1 a1
  have hb2 := (norm_len_iff b2 1024).1 b1
  refine wsr ?_
  simp only [↓stU, stD, reduceEqDiff, ↓reduceIte, p0, p1, p2]
  refine wpo_call ?_
  try simp only [↓stU, stD, reduceEqDiff, ↓reduceIte]
  refine wpf_mono (xlowest_spec H (⟨l, hv.same s4, a2, rfl⟩ : NatIs S4 v (val l)) (⟨m, hw.same s4, b2, rfl⟩ : NatIs S4 w (val m)) hb1 hb2 (by decide) (by omega)) ?_
  rintro v5 S5 ⟨hv5, s5⟩
  try simp only [↓stU, stD, reduceEqDiff, ↓reduceIte]
  refine wpo_call ?_
  try simp only [↓stU, stD, reduceEqDiff, ↓reduceIte]
  have hin : InBound (mkRat (sg s (val l)) (val m)) := by
    obtain ⟨k1, k2⟩ := mkRat_le (n := sg s (val l)) (d := val m) hm0
    rw [sg_natAbs] at k1
    exact ⟨Nat.lt_of_le_of_lt k1 hb1, Nat.lt_of_le_of_lt k2 hb2⟩
  refine wpf_mono (xfits_spec H hv5 hin) ?_
  rintro _ S6 ⟨u, rfl, hu, s6⟩
  obtain ⟨c0, c1, c2, rfl⟩ := hu.cells
  have k6 : S6.h.get S.nx = some (.cells [.bool false, .nilsl, .nilsl] false 0) := by rw [(s5.trans s6).2 _ (by omega)]; exact k4
  simp only [↓stU, stD, reduceEqDiff, ↓reduceIte, ex0, ex1, p6]
  refine wpo_st (b := S.nx) (by simp only [↓stU, stD, reduceEqDiff, ↓reduceIte, p6]) (by simp only [↓stU, stD, reduceEqDiff, ↓reduceIte, cells_agg]; rfl) k6 rfl rfl ?_
  intro S7 s7 n7 c7
  simp only [↓stU, stD, reduceEqDiff, ↓reduceIte]
  refine wpc_ret ?_
  simp only [↓stU, stD, reduceEqDiff, ↓reduceIte, results_cell, p6, ld3 c7]
  exact ⟨⟨_, _, _, rfl, hu.st k6 rfl s7 c7⟩, s7.same (s4.trans (s5.trans s6)) (Nat.le_refl _)⟩
end
end Go.Ev.Gl

namespace Go.Ev.Gl
variable {fns : T AFn}

/-! ## Whole numbers as ints -/
theorem land32 (a : Nat) : Nat.land a 4294967295 = a % 4294967296 := Nat.and_two_pow_sub_one_eq_mod a 32
theorem mul64_hi {x : Nat} (y : Nat) : (x / 4294967296 * y + x % 4294967296 * y / 4294967296) / 4294967296 = x * y / 18446744073709551616 := by
  have e : x * y = (x / 4294967296 * y) * 4294967296 + x % 4294967296 * y := by
    have := Nat.div_add_mod x 4294967296
    calc x * y = (4294967296 * (x / 4294967296) + x % 4294967296) * y := by rw [this]
      _ = (x / 4294967296 * y) * 4294967296 + x % 4294967296 * y := by grind
  rw [e, show (18446744073709551616 : Nat) = 4294967296 * 4294967296 from rfl, ← Nat.div_div_eq_div_mul, Nat.mul_comm (x / 4294967296 * y), Nat.mul_add_div (by decide)]

theorem and32 {a : Nat} (h : a ≤ 18446744073709551615) : binV .and (.p .int) (.int .u64 (a : Int)) (.int .u64 4294967295) = some (.int .u64 ((a % 4294967296 : Nat) : Int)) := by
  rw [← land32]
  exact bin_and64 (.p .int) (a := a) (b := 4294967295) h (by decide)
theorem shr32 (a : Nat) : binV .shr (.p .int) (.int .u64 (a : Int)) (.int .u64 32) = some (.int .u64 ((a / 4294967296 : Nat) : Int)) := bin_shr64 (.p .int) .u64 (a := a) (n := 32) (by decide)

theorem mul64_spec {S : St} {x : Nat} (H : Has fns) (hx : x ≤ 18446744073709551615) : wpf fns (.fn 122 [] []) [.int .u64 (x : Int), .int .u64 1000000000] S fun r S' => r = .tup [.int .u64 ((x * 1000000000 / 18446744073709551616 : Nat) : Int), .int .u64 ((x * 1000000000 % 18446744073709551616 : Nat) : Int)] ∧ S' = S := by
  have a1 := and32 hx
  have a2 := shr32 x
  have a3 : binV .and (.p .int) (.int .u64 1000000000) (.int .u64 4294967295) = some (.int .u64 1000000000) := rfl
  have a4 : binV .shr (.p .int) (.int .u64 1000000000) (.int .u64 32) = some (.int .u64 0) := rfl
  have hhi := mul64_hi (x := x) 1000000000
  have b0 : x % 4294967296 ≤ 4294967295 := by omega
  have b1 : x / 4294967296 ≤ 4294967295 := by omega
  obtain ⟨x0, hx0⟩ : ∃ x0, x % 4294967296 = x0 := ⟨_, rfl⟩
  obtain ⟨x1, hx1⟩ : ∃ x1, x / 4294967296 = x1 := ⟨_, rfl⟩
  rw [hx0] at a1 hhi b0
  rw [hx1] at a2 hhi b1
  have w1 : IntKind.u64.wrap ((x0 : Int) * 1000000000) = ((x0 * 1000000000 : Nat) : Int) := by rw [wrap_u64 (by omega) (by omega)]; omega
  have w2 : IntKind.u64.wrap ((x1 : Int) * 1000000000) = ((x1 * 1000000000 : Nat) : Int) := by rw [wrap_u64 (by omega) (by omega)]; omega
  have a5 := shr32 (x0 * 1000000000)
  have b2 : x0 * 1000000000 / 4294967296 ≤ 1000000000 := by omega
  obtain ⟨c0, hc0⟩ : ∃ c0, x0 * 1000000000 / 4294967296 = c0 := ⟨_, rfl⟩
  rw [hc0] at a5 hhi b2
  have w3 : IntKind.u64.wrap (((x1 * 1000000000 : Nat) : Int) + (c0 : Int)) = ((x1 * 1000000000 + c0 : Nat) : Int) := by rw [wrap_u64 (by omega) (by omega)]; omega
  have ht : x1 * 1000000000 + c0 ≤ 18446744073709551615 := by omega
  obtain ⟨t, ht'⟩ : ∃ t, x1 * 1000000000 + c0 = t := ⟨_, rfl⟩
  rw [ht'] at w3 ht hhi
  have a6 := and32 ht
  have a7 := shr32 t
  rw [hhi] at a7
  have b3 : t % 4294967296 ≤ 4294967295 := by omega
  have b4 : x * 1000000000 / 18446744073709551616 ≤ 1000000000 := by omega
  obtain ⟨t0, ht0⟩ : ∃ t0, t % 4294967296 = t0 := ⟨_, rfl⟩
  rw [ht0] at a6 b3
  have w4 : IntKind.u64.wrap ((x0 : Int) * 0) = 0 := by rw [Int.mul_zero]; rfl
  have w5 : IntKind.u64.wrap ((t0 : Int) + 0) = (t0 : Int) := by rw [wrap_u64 (by omega) (by omega)]; omega
  have w6 : IntKind.u64.wrap ((x1 : Int) * 0) = 0 := by rw [Int.mul_zero]; rfl
  have a8 : binV .shr (.p .int) (.int .u64 (t0 : Int)) (.int .u64 32) = some (.int .u64 0) := by rw [shr32, Nat.div_eq_of_lt (by omega)]; rfl
  have w7 : IntKind.u64.wrap (0 + ((x * 1000000000 / 18446744073709551616 : Nat) : Int)) = ((x * 1000000000 / 18446744073709551616 : Nat) : Int) := by rw [wrap_u64 (by omega) (by omega)]; omega
  have w8 : IntKind.u64.wrap (((x * 1000000000 / 18446744073709551616 : Nat) : Int) + 0) = ((x * 1000000000 / 18446744073709551616 : Nat) : Int) := by rw [wrap_u64 (by omega) (by omega)]; omega
  have w9 : IntKind.u64.wrap ((x : Int) * 1000000000) = ((x * 1000000000 % 18446744073709551616 : Nat) : Int) := by
    simp only [IntKind.wrap, IntKind.signed, IntKind.bits, Bool.false_and, Bool.false_eq_true, if_false]
    omega
  refine wpf_fn H.f122 (by simp) ?_
  simp only [↓stU, stD, reduceEqDiff, ↓reduceIte]
  iterate 11
    refine wsr ?_
    simp only [↓stU, stD, reduceEqDiff, ↓reduceIte, a1, a2, a3, a4, w1, w2, a5, w3, a6, a7, w4, w5, w6, a8, w7, w8]
  refine wsr ?_
  simp only [↓stU, stD, reduceEqDiff, ↓reduceIte, w9]
  refine wpc_ret ?_
  simp only [↓stU, stD, reduceEqDiff, ↓reduceIte]
end Go.Ev.Gl

namespace Go.Ev.Gl
variable {fns : T AFn}

theorem ext_add (a b : Nat) : extV .add64 [.int .u64 (a : Int), .int .u64 (b : Int), .int .u64 0] = some (.tup [.int .u64 (((a + b) % 18446744073709551616 : Nat) : Int), .int .u64 (((a + b) / 18446744073709551616 : Nat) : Int)]) := rfl
theorem evX_ext (k : ExtK) (l : List Opd) (call : CallF) (F : Fr) (S : St) : evX (.ext k l) call F S = osel (extV k (valsOf l F)) fun v => some (v, S) := rfl
theorem val_drop_le (l : List Nat) (i : Nat) : val (l.drop i) ≤ val l := by
  have h := val_append (l.take i) (l.drop i)
  rw [List.take_append_drop] at h
  have : 1 * val (l.drop i) ≤ B ^ (l.take i).length * val (l.drop i) := Nat.mul_le_mul_right _ (Nat.pow_pos B_pos)
  omega

def UintI (S : St) (v : AV) (l : List Nat) (k : Nat) (A : Act') (S' : St) : Prop :=
  A.inr = false ∧ S' = S ∧ k ≤ l.length ∧ tmpV 0 A.F = v ∧ tmpV 4 A.F = .int .u64 ((val (l.drop k) : Nat) : Int) ∧ tmpV 5 A.F = .int .i64 ((k : Int) - 1) ∧ val (l.drop k) ≤ 18446744073709551615

theorem uint_spec {S : St} {v : AV} {n : Nat} (H : Has fns) (h : NatIs S v n) (hn : Fits n) : wpf fns (.fn 87 [] []) [v] S fun r S' => (∃ u ok, r = .tup [.int .u64 ((u : Nat) : Int), .bool ok] ∧ (ok = true ↔ n ≤ 18446744073709551615) ∧ (ok = true → u = n)) ∧ S' = S := by
  have hB : B = 1000000000 := rfl
  obtain ⟨l, hl, hln, rfl⟩ := h
  have hlen := hn.len hln
  refine wpf_fn H.f87 (by simp) ?_
  simp only [↓stU, stD, reduceEqDiff, ↓reduceIte]
  refine wsr ?_
  simp only [↓stU, stD, reduceEqDiff, ↓reduceIte]
  refine wss ?_
  simp only [↓stU, stD, reduceEqDiff, ↓reduceIte, hl.len]
  by_cases h3 : 3 < l.length
  · refine wpc_yes (by simp only [↓stU, stD, reduceEqDiff, ↓reduceIte, decide_eq_true (show (3 : Int) < ((l.length : Nat) : Int) by omega)]) ?_
    refine wsr ?_
    simp only [↓stU, stD, reduceEqDiff, ↓reduceIte]
    refine wpc_ret ?_
    simp only [↓stU, stD, reduceEqDiff, ↓reduceIte]
    refine ⟨0, false, rfl, ⟨fun h => (by cases h), fun h => ?_⟩, fun h => (by cases h)⟩
    have h1 := low_of hln h3
    have h2 : (18446744073709551615 : Nat) < B ^ 3 := by decide
    omega
  refine wpc_non (by simp only [↓stU, stD, reduceEqDiff, ↓reduceIte, decide_eq_false (show ¬ (3 : Int) < ((l.length : Nat) : Int) by omega)]) (wpc_skip ?_)
  try simp only [↓stU, stD, reduceEqDiff, ↓reduceIte]
  refine wsr ?_
  simp only [↓stU, stD, reduceEqDiff, ↓reduceIte]
  have w0 : IntKind.i64.wrap (((l.length : Nat) : Int) - 1) = ((l.length : Nat) : Int) - 1 := wrap_i64 (by omega) (by omega)
  refine wss ?_
  simp only [↓stU, stD, reduceEqDiff, ↓reduceIte, hl.len, w0]
  refine wpc_block (wpc_loop (UintI S v l) ?_ l.length _ _ ⟨rfl, rfl, Nat.le_refl _, by simp only [↓stU, stD, reduceEqDiff, ↓reduceIte], by simp only [↓stU, stD, reduceEqDiff, ↓reduceIte, List.drop_length, val_nil]; try rfl, by simp only [↓stU, stD, reduceEqDiff, ↓reduceIte], by simp [val_nil]⟩)
  rintro k ⟨F, inr⟩ S' ⟨q0, hS', hk, p0, p4, p5, hacc⟩
  simp only at q0 p0 p4 p5
  subst q0
  rw [hS']
  refine wss ?_
  simp only [↓stU, stD, reduceEqDiff, ↓reduceIte, p5]
  by_cases hk0 : 0 < k
  · refine wpc_yes (by simp only [↓stU, stD, reduceEqDiff, ↓reduceIte, decide_eq_true (show (0 : Int) ≤ (k : Int) - 1 by omega)]) (wpc_skip ?_)
    try simp only [↓stU, stD, reduceEqDiff, ↓reduceIte]
    obtain ⟨i, rfl⟩ : ∃ i, k = i + 1 := ⟨k - 1, by omega⟩
    have hi : i < l.length := by omega
    rw [show ((i + 1 : Nat) : Int) - 1 = (i : Int) by omega] at p5
    have hld := hl.ld hi
    rw [List.getD_eq_getElem?_getD] at hld
    have hlt := getD_lt hln.1 i
    have hvd := val_drop hi
    have hle := val_drop_le l i
    generalize l[i]?.getD 0 = x at *
    generalize val (l.drop (i + 1)) = acc at *
    have w1 : IntKind.u64.wrap (x : Int) = (x : Int) := wrap_u64 (by omega) (by omega)
    refine wpc_seq (wpc_block (wpc_seq (wpc_reg ?_)))
    simp only [↓stU, stD, reduceEqDiff, ↓reduceIte, p4]
    refine wpo_call ?_
    try simp only [↓stU, stD, reduceEqDiff, ↓reduceIte]
    refine wpf_mono (mul64_spec H hacc) ?_
    rintro _ S2 ⟨rfl, hS2⟩
    rw [hS2]
    simp only [↓stU, stD, reduceEqDiff, ↓reduceIte, ex0, ex1]
    refine wsr ?_
    simp only [↓stU, stD, reduceEqDiff, ↓reduceIte, p0, p5, natOf_cast, hl.iaddr hi, hld, w1]
    refine wpo_x (fun call => by simp only [↓stU, stD, reduceEqDiff, ↓reduceIte, evX_ext, valsOf_cons, valsOf_nil]; rw [ext_add]; rfl) ?_
    simp only [↓stU, stD, reduceEqDiff, ↓reduceIte, ex0, ex1]
    have key : acc * 1000000000 / 18446744073709551616 + (acc * 1000000000 % 18446744073709551616 + x) / 18446744073709551616 = (acc * 1000000000 + x) / 18446744073709551616 ∧ (acc * 1000000000 % 18446744073709551616 + x) % 18446744073709551616 = (acc * 1000000000 + x) % 18446744073709551616 := by omega
    rw [hB] at hvd
    have w2 : IntKind.u64.wrap (((acc * 1000000000 / 18446744073709551616 : Nat) : Int) + (((acc * 1000000000 % 18446744073709551616 + x) / 18446744073709551616 : Nat) : Int)) = ((acc * 1000000000 / 18446744073709551616 + (acc * 1000000000 % 18446744073709551616 + x) / 18446744073709551616 : Nat) : Int) := by rw [wrap_u64 (by omega) (by omega)]; omega
    refine wss ?_
    simp only [↓stU, stD, reduceEqDiff, ↓reduceIte, w2]
    by_cases hov : 18446744073709551616 ≤ acc * 1000000000 + x
    · refine wpc_yes (by simp only [↓stU, stD, reduceEqDiff, ↓reduceIte, decide_eq_true (show (0 : Int) < ((acc * 1000000000 / 18446744073709551616 + (acc * 1000000000 % 18446744073709551616 + x) / 18446744073709551616 : Nat) : Int) by rw [key.1]; omega)]) ?_
      refine wsr ?_
      simp only [↓stU, stD, reduceEqDiff, ↓reduceIte]
      refine wpc_ret ?_
      simp only [↓stU, stD, reduceEqDiff, ↓reduceIte]
      exact ⟨0, false, rfl, ⟨fun h => (by cases h), fun h => (by omega)⟩, fun h => (by cases h)⟩
    · refine wpc_non (by simp only [↓stU, stD, reduceEqDiff, ↓reduceIte, decide_eq_false (show ¬ (0 : Int) < ((acc * 1000000000 / 18446744073709551616 + (acc * 1000000000 % 18446744073709551616 + x) / 18446744073709551616 : Nat) : Int) by rw [key.1]; omega)]) (wpc_skip ?_)
      try simp only [↓stU, stD, reduceEqDiff, ↓reduceIte]
      have w5 : IntKind.i64.wrap ((i : Int) - 1) = (i : Int) - 1 := wrap_i64 (by omega) (by omega)
      refine wpc_reg ?_
      simp only [↓stU, stD, reduceEqDiff, ↓reduceIte]
      refine wpc_reg ?_
      simp only [↓stU, stD, reduceEqDiff, ↓reduceIte, p5, w5]
      refine ⟨i, by omega, rfl, rfl, by omega, by simp only [↓stU, stD, reduceEqDiff, ↓reduceIte, p0], ?_, by simp only [↓stU, stD, reduceEqDiff, ↓reduceIte], by omega⟩
      simp only [↓stU, stD, reduceEqDiff, ↓reduceIte]
      rw [key.2, Nat.mod_eq_of_lt (by omega), hvd, Nat.mul_comm 1000000000, Nat.add_comm]
  · have hk1 : k = 0 := by omega
    subst hk1
    refine wpc_non (by simp only [↓stU, stD, reduceEqDiff, ↓reduceIte, show decide ((0 : Int) ≤ ((0 : Nat) : Int) - 1) = false from rfl]; try rfl) (wpc_exit ?_)
    try simp only [↓stU, stD, reduceEqDiff, ↓reduceIte]
    rw [List.drop_zero] at p4 hacc
    refine wsr ?_
    simp only [↓stU, stD, reduceEqDiff, ↓reduceIte, p4]
    refine wpc_ret ?_
    simp only [↓stU, stD, reduceEqDiff, ↓reduceIte]
    exact ⟨val l, true, rfl, ⟨fun _ => hacc, fun _ => rfl⟩, fun _ => rfl⟩
end Go.Ev.Gl

namespace Go.Ev.Gl
variable {fns : T AFn}

abbrev InI (z : Int) : Prop := -9223372036854775808 ≤ z ∧ z ≤ 9223372036854775807
def intE (z : Int) : Int := if InI z then 0 else 5
def intV (z : Int) : Int := if InI z then z else 0
theorem top_norm : Norm [854775808, 223372036, 9] ∧ val [854775808, 223372036, 9] = 9223372036854775808 := by
  refine ⟨⟨?_, by simp⟩, by decide⟩
  intro x hx
  simp at hx
  rcases hx with rfl | rfl | rfl <;> decide
theorem evA_top {t : Nat} {F : Fr} {id : Nat} : evA (.bslice t 1 3 [.int .u32 (.ofNat 0)] [(0, .c (.int .u32 (.ofNat 854775808))), (1, .c (.int .u32 (.ofNat 223372036))), (2, .c (.int .u32 (.ofNat 9)))]) F id = some (.sl id 0 3 3 false, .cells (cells32 [854775808, 223372036, 9]) false 0) := rfl

def XIntI (S : St) (b : Nat) (l : List Nat) (k : Nat) (A : Act') (S' : St) : Prop :=
  A.inr = false ∧ S' = S ∧ k ≤ l.length ∧ tmpV 1 A.F = .ptr b 0 ∧ tmpV 4 A.F = .int .i64 (-((val (l.drop k) : Nat) : Int)) ∧ tmpV 5 A.F = .int .i64 ((k : Int) - 1)

theorem xint_spec {S : St} {a : AV} {z : Int} (H : Has fns) (h : RatIs S a (z : Rat)) (hz : Fits z.natAbs) : wpf fns (.fn 88 [] []) [a] S fun r S' => r = .tup [.int .i64 (intV z), .int .i64 (intE z)] ∧ Same S S' := by
  have hB : B = 1000000000 := rfl
  obtain ⟨nv, dv, rfl, h1, h2⟩ := h
  rw [(int_num z).1] at h1 ⊢
  refine wpf_fn H.f88 (by simp) ?_
  simp only [↓stU, stD, reduceEqDiff, ↓reduceIte]
  refine wsr ?_
  refine wpo_box (by simp only [↓stU, stD, reduceEqDiff, ↓reduceIte, cells_agg]; rfl) ?_
  intro S1 s1 n1 c1
  simp only [↓stU, stD, reduceEqDiff, ↓reduceIte]
  refine wss ?_
  simp only [↓stU, stD, reduceEqDiff, ↓reduceIte, evQ_faddr, faddr_ptr, ld3_1 c1]
  refine wpo_al evA_top ?_
  intro S2 s2 n2 c2
  try simp only [↓stU, stD, reduceEqDiff, ↓reduceIte]
  have g1 : S2.h.get S.nx = some (.cells [.bool (decide (z < 0)), nv, dv] false 0) := by rw [s2.2 _ (by omega)]; exact c1
  have sS := s1.trans s2
  refine wpo_call ?_
  try simp only [↓stU, stD, reduceEqDiff, ↓reduceIte]
  have htop : NatIs S2 (.sl S1.nx 0 3 3 false) 9223372036854775808 := ⟨_, limbs_own (o := false) (sz := 0) c2 (by omega) rfl (Nat.le_refl _), top_norm.1, top_norm.2⟩
  refine wpf_mono (xorder_spec H (h1.same sS) htop hz) ?_
  rintro _ S3 ⟨rfl, s3⟩
  simp only [↓stU, stD, reduceEqDiff, ↓reduceIte, cmpI_gt]
  have g3 : S3.h.get S.nx = some (.cells [.bool (decide (z < 0)), nv, dv] false 0) := by rw [s3.2 _ (by omega)]; exact g1
  have sT := sS.trans s3
  by_cases hbig : 9223372036854775808 < z.natAbs
  · refine wpc_yes (by simp only [↓stU, stD, reduceEqDiff, ↓reduceIte, decide_eq_true hbig]) ?_
    refine wsr ?_
    simp only [↓stU, stD, reduceEqDiff, ↓reduceIte]
    refine wpc_ret ?_
    have hn : ¬ InI z := fun h => by unfold InI at h; omega
    simp only [↓stU, stD, reduceEqDiff, ↓reduceIte, intV, intE, if_neg hn]
    exact sT
  refine wpc_non (by simp only [↓stU, stD, reduceEqDiff, ↓reduceIte, decide_eq_false hbig]) (wpc_skip ?_)
  try simp only [↓stU, stD, reduceEqDiff, ↓reduceIte]
  obtain ⟨l, hl, hln, hlz⟩ := h1.same sT
  have hlen := Fits.len hln (by rw [hlz]; exact hz)
  refine wsr ?_
  simp only [↓stU, stD, reduceEqDiff, ↓reduceIte]
  have w0 : IntKind.i64.wrap (((l.length : Nat) : Int) - 1) = ((l.length : Nat) : Int) - 1 := wrap_i64 (by omega) (by omega)
  refine wss ?_
  simp only [↓stU, stD, reduceEqDiff, ↓reduceIte, evQ_faddr, faddr_ptr, ld3_1 g3, hl.len, w0]
  refine wpc_mono (Q := fun o A' X => o = .normal ∧ XIntI S3 S.nx l 0 A' X) (wpc_block (wpc_loop (XIntI S3 S.nx l) ?_ l.length _ _ ⟨rfl, rfl, Nat.le_refl _, by simp only [↓stU, stD, reduceEqDiff, ↓reduceIte], by simp only [↓stU, stD, reduceEqDiff, ↓reduceIte, List.drop_length, val_nil]; try rfl, by simp only [↓stU, stD, reduceEqDiff, ↓reduceIte]⟩)) ?_
  · rintro k ⟨F, inr⟩ X ⟨q0, hX, hk, p1, p4, p5⟩
    simp only at q0 p1 p4 p5
    subst q0
    rw [hX]
    refine wss ?_
    simp only [↓stU, stD, reduceEqDiff, ↓reduceIte, p5]
    by_cases hk0 : 0 < k
    · refine wpc_yes (by simp only [↓stU, stD, reduceEqDiff, ↓reduceIte, decide_eq_true (show (0 : Int) ≤ (k : Int) - 1 by omega)]) (wpc_skip ?_)
      try simp only [↓stU, stD, reduceEqDiff, ↓reduceIte]
      obtain ⟨i, rfl⟩ : ∃ i, k = i + 1 := ⟨k - 1, by omega⟩
      have hi : i < l.length := by omega
      rw [show ((i + 1 : Nat) : Int) - 1 = (i : Int) by omega] at p5
      have hld := hl.ld hi
      rw [List.getD_eq_getElem?_getD] at hld
      have hlt := getD_lt hln.1 i
      have hvd := val_drop hi
      have hle := val_drop_le l i
      generalize l[i]?.getD 0 = x at *
      generalize val (l.drop (i + 1)) = acc at *
      rw [hB] at hvd
      have w1 : IntKind.i64.wrap (-(acc : Int) * 1000000000) = -(acc : Int) * 1000000000 := wrap_i64 (by omega) (by omega)
      have w2 : IntKind.i64.wrap (x : Int) = (x : Int) := wrap_i64 (by omega) (by omega)
      have w3 : IntKind.i64.wrap (-(acc : Int) * 1000000000 - (x : Int)) = -((val (l.drop i) : Nat) : Int) := by rw [wrap_i64 (by omega) (by omega), hvd]; omega
      have w5 : IntKind.i64.wrap ((i : Int) - 1) = (i : Int) - 1 := wrap_i64 (by omega) (by omega)
      refine wpc_seq (wpc_block (wpc_reg ?_))
      simp only [↓stU, stD, reduceEqDiff, ↓reduceIte, p1, p4, p5, w1, evQ_faddr, faddr_ptr, ld3_1 g3, natOf_cast, hl.iaddr hi, hld, w2, w3]
      refine wpc_reg ?_
      simp only [↓stU, stD, reduceEqDiff, ↓reduceIte, p5, w5]
      exact ⟨i, by omega, rfl, rfl, by omega, by simp only [↓stU, stD, reduceEqDiff, ↓reduceIte, p1], by simp only [↓stU, stD, reduceEqDiff, ↓reduceIte], by simp only [↓stU, stD, reduceEqDiff, ↓reduceIte]⟩
    · have hk1 : k = 0 := by omega
      subst hk1
      refine wpc_non (by simp only [↓stU, stD, reduceEqDiff, ↓reduceIte, show decide ((0 : Int) ≤ ((0 : Nat) : Int) - 1) = false from rfl]; try rfl) (wpc_exit ?_)
      try simp only [↓stU, stD, reduceEqDiff, ↓reduceIte]
      exact ⟨rfl, rfl, by omega, by simp only [↓stU, stD, reduceEqDiff, ↓reduceIte, p1], by simp only [↓stU, stD, reduceEqDiff, ↓reduceIte, p4], by simp only [↓stU, stD, reduceEqDiff, ↓reduceIte, p5]⟩
  rintro o ⟨F, inr⟩ X ⟨rfl, q0, hX, _, p1, p4, p5⟩
  simp only at q0 p1 p4 p5
  subst q0
  rw [hX]
  rw [List.drop_zero, hlz] at p4
  try simp only [↓stU, stD, reduceEqDiff, ↓reduceIte]
  refine wss ?_
  simp only [↓stU, stD, reduceEqDiff, ↓reduceIte, p1, evQ_faddr, faddr_ptr, ld3_0 g3]
  by_cases hneg : z < 0
  · refine wpc_yes (by simp only [↓stU, stD, reduceEqDiff, ↓reduceIte, decide_eq_true hneg]) ?_
    refine wsr ?_
    simp only [↓stU, stD, reduceEqDiff, ↓reduceIte, p4]
    refine wpc_ret ?_
    have hi : InI z := by unfold InI; omega
    simp only [↓stU, stD, reduceEqDiff, ↓reduceIte, intV, intE, if_pos hi]
    exact ⟨by rw [show -((z.natAbs : Nat) : Int) = z by omega], sT⟩
  refine wpc_non (by simp only [↓stU, stD, reduceEqDiff, ↓reduceIte, decide_eq_false hneg]) (wpc_skip ?_)
  try simp only [↓stU, stD, reduceEqDiff, ↓reduceIte]
  by_cases htop2 : z.natAbs = 9223372036854775808
  · have w6 : IntKind.i64.wrap (- -((z.natAbs : Nat) : Int)) = -((z.natAbs : Nat) : Int) := by rw [htop2]; decide
    refine wss ?_
    simp only [↓stU, stD, reduceEqDiff, ↓reduceIte, p4, un_neg_i, w6, decide_true, decide_eq_true (show -((z.natAbs : Nat) : Int) ≠ 0 by omega)]
    refine wpc_yes (by simp only [↓stU, stD, reduceEqDiff, ↓reduceIte]) ?_
    refine wsr ?_
    simp only [↓stU, stD, reduceEqDiff, ↓reduceIte]
    refine wpc_ret ?_
    have hi : ¬ InI z := fun h => by unfold InI at h; omega
    simp only [↓stU, stD, reduceEqDiff, ↓reduceIte, intV, intE, if_neg hi]
    exact sT
  · have w6 : IntKind.i64.wrap (- -((z.natAbs : Nat) : Int)) = z := by rw [wrap_i64 (by omega) (by omega)]; omega
    have hi : InI z := by unfold InI; omega
    refine wpc_seq (wpc_seq (wpc_mono (Q := fun o A' X => o = .normal ∧ A'.inr = false ∧ X = S3 ∧ tmpV 4 A'.F = .int .i64 (-((z.natAbs : Nat) : Int)) ∧ tmpV 38 A'.F = .bool false) (wpc_reg ?_) ?_))
    · by_cases hz0 : z = 0
      · simp only [↓stU, stD, reduceEqDiff, ↓reduceIte, p4, un_neg_i, w6, decide_eq_true (show -((z.natAbs : Nat) : Int) = z by omega), decide_eq_false (show ¬ -((z.natAbs : Nat) : Int) ≠ 0 by omega)]
      · simp only [↓stU, stD, reduceEqDiff, ↓reduceIte, p4, un_neg_i, w6, decide_eq_false (show ¬ -((z.natAbs : Nat) : Int) = z by omega)]
    rintro o ⟨F, inr⟩ X ⟨rfl, q0, hX, p4, p38⟩
    simp only at q0 p4 p38
    subst q0
    rw [hX]
    try simp only [↓stU, stD, reduceEqDiff, ↓reduceIte]
    refine wpc_non (by simp only [↓stU, stD, reduceEqDiff, ↓reduceIte, p38]) (wpc_skip ?_)
    try simp only [↓stU, stD, reduceEqDiff, ↓reduceIte]
    refine wsr ?_
    simp only [↓stU, stD, reduceEqDiff, ↓reduceIte, p4, un_neg_i, w6]
    refine wpc_ret ?_
    simp only [↓stU, stD, reduceEqDiff, ↓reduceIte, intV, intE, if_pos hi]
    exact sT
end Go.Ev.Gl

namespace Go.Ev.Gl
variable {fns : T AFn}

/-! ## Scale -/
def zfl (p : Rat) (n : Int) : Int := p.num * n / p.den
theorem zfl_dn (p : Rat) (n : Int) : sg (decide (p.num < 0) != decide (n < 0)) (dn (decide (p.num < 0) != decide (n < 0)) (p.num.natAbs * n.natAbs) p.den) = zfl p n := by
  have hd : 0 < p.den := by have := p.den_nz; omega
  unfold zfl
  have e0 : ((p.num.natAbs * n.natAbs : Nat) : Int) = (p.num.natAbs : Int) * n.natAbs := Int.natCast_mul ..
  by_cases h1 : p.num < 0 <;> by_cases h2 : n < 0
  · rw [decide_eq_true h1, decide_eq_true h2, show (true != true) = false from rfl, dn_up]
    simp only [sg, Bool.false_eq_true, if_false]
    rw [Int.natCast_ediv, e0, show (p.num.natAbs : Int) = -p.num by omega, show (n.natAbs : Int) = -n by omega, Int.neg_mul_neg]
  · rw [decide_eq_true h1, decide_eq_false h2, show (true != false) = true from rfl]
    simp only [sg, if_true]
    rw [dn_down hd, e0, show (p.num.natAbs : Int) = -p.num by omega, show (n.natAbs : Int) = n by omega, Int.neg_mul, Int.neg_neg]
  · rw [decide_eq_false h1, decide_eq_true h2, show (false != true) = true from rfl]
    simp only [sg, if_true]
    rw [dn_down hd, e0, show (p.num.natAbs : Int) = p.num by omega, show (n.natAbs : Int) = -n by omega, Int.mul_neg, Int.neg_neg]
  · rw [decide_eq_false h1, decide_eq_false h2, show (false != false) = false from rfl, dn_up]
    simp only [sg, Bool.false_eq_true, if_false]
    rw [Int.natCast_ediv, e0, show (p.num.natAbs : Int) = p.num by omega, show (n.natAbs : Int) = n by omega]
theorem flr_mul (p : Rat) (n : Int) : flr (p * (n : Rat)) = zfl p n := by
  have e : p * (n : Rat) = mkRat (p.num * n) p.den := by rw [Rat.mul_def', (int_num n).1, (int_num n).2, Nat.mul_one]
  have h := Rat.mkRat_self (p * (n : Rat))
  rw [e] at h ⊢
  have hx := (mkRat (p.num * n) p.den).den_nz
  have k := (Rat.mkRat_eq_iff hx p.den_nz).1 h
  unfold flr zfl
  have hd : (0 : Int) < (mkRat (p.num * n) p.den).den := by omega
  have hd2 : (0 : Int) < p.den := den_pos p
  rw [← Int.mul_ediv_mul_of_pos_left (p.num * n) p.den hd, ← k, Int.mul_comm (p.den : Int), Int.mul_ediv_mul_of_pos_left _ _ hd2]
noncomputable def scV (E : Int) (p : Rat) (n : Int) : Int := if E = 0 then intV (zfl p n) else 0
noncomputable def scE (E : Int) (p : Rat) (n : Int) : Int := if E = 0 then intE (zfl p n) else E
section
variable {S : St} {a : AV} {E : Int} {p : Rat} {n : Int}
theorem pscale (H : Has fns) (hL : Laid S) (h : Solo S a E p) (n1 : -9223372036854775808 ≤ n) (n2 : n ≤ 9223372036854775807) : wpf fns (.fn 45 [] []) [a, .int .i64 n] S fun r S' => r = .tup [.int .i64 (scV E p n), .int .i64 (scE E p n)] ∧ Same S S' := by
  obtain ⟨a0, a1, a2, rfl⟩ := h.cells
  unfold scV scE
  refine wpf_fn H.f45 (by simp) ?_
  simp only [↓stU, stD, reduceEqDiff, ↓reduceIte]
  refine wsr ?_
  refine wpo_box (by simp only [↓stU, stD, reduceEqDiff, ↓reduceIte, cells_agg]; rfl) ?_
  intro S1 s1 m1 c1
  simp only [↓stU, stD, reduceEqDiff, ↓reduceIte]
  refine wss ?_
  simp only [↓stU, stD, reduceEqDiff, ↓reduceIte, ld3 c1]
  refine wpo_call ?_
  try simp only [↓stU, stD, reduceEqDiff, ↓reduceIte]
  refine wpf_mono (h.check H hL S1 s1) ?_
  rintro _ S2 ⟨rfl, s2⟩
  try simp only [↓stU, stD, reduceEqDiff, ↓reduceIte]
  refine wsr ?_
  simp only [↓stU, stD, reduceEqDiff, ↓reduceIte]
  by_cases hE : E = 0
  rotate_left
  · rw [if_neg hE, if_neg hE]
    refine wpc_yes (by simp only [↓stU, stD, reduceEqDiff, ↓reduceIte, decide_eq_true (show E ≠ 0 from hE)]) ?_
    refine wsr ?_
    simp only [↓stU, stD, reduceEqDiff, ↓reduceIte]
    refine wpc_ret ?_
    simp only [↓stU, stD, reduceEqDiff, ↓reduceIte]
    exact s1.trans s2
  rw [if_pos hE, if_pos hE]
  refine wpc_non (by simp only [↓stU, stD, reduceEqDiff, ↓reduceIte, decide_eq_false (show ¬ E ≠ 0 from fun h => h hE)]) (wpc_skip ?_)
  try simp only [↓stU, stD, reduceEqDiff, ↓reduceIte]
  obtain ⟨hr, hb⟩ := h.ok hE
  obtain ⟨nv, dv, he, h1, h2⟩ := id hr
  cases he
  have hzf := zfl_dn p n
  have hd0 : 0 < p.den := by have := p.den_nz; omega
  have g2 : S2.h.get S.nx = some (.cells [.bool (decide (p.num < 0)), a1, a2] false 0) := by rw [s2.2 _ (by omega)]; exact c1
  have sS := s1.trans s2
  have lt1 : S.nx < S2.nx := by have := s2.1; omega
  have hxB : p.num.natAbs * n.natAbs < B ^ 33 := mul_lt_pow (i := 30) (j := 3) hb.1 (small_pow (by omega))
  have hAB := dn_lt (neg := decide (p.num < 0) != decide (n < 0)) (y := p.den) hxB
  obtain ⟨A, hA⟩ : ∃ A, dn (decide (p.num < 0) != decide (n < 0)) (p.num.natAbs * n.natAbs) p.den = A := ⟨_, rfl⟩
  refine wpc_seq (wpc_drd1 (fun _ => False) ?_)
  intro S3 s3
  simp only [↓stU, stD, reduceEqDiff, ↓reduceIte, ↓stV, stW, Nat.reduceAdd, evQ_faddr, faddr_ptr, isLoad_faddr, ld3_0 g2, ld3_1 g2, lt1, not_false_eq_true, nat_self h1, ne_bool]
  refine runD_call0 rfl ?_
  try simp only [↓stU, stD, reduceEqDiff, ↓reduceIte, ↓stV, stW, Nat.reduceAdd]
  refine wpf_mono (psize_spec H n1 n2) ?_
  rintro _ S4 ⟨rfl, hS4⟩
  rw [hS4]
  refine ⟨Same.refl _, ?_⟩
  try simp only [↓stU, stD, reduceEqDiff, ↓reduceIte, ↓stV, stW, Nat.reduceAdd]
  refine runD_call0 rfl ?_
  try simp only [↓stU, stD, reduceEqDiff, ↓reduceIte, ↓stV, stW, Nat.reduceAdd]
  refine wpf_mono (of_spec H.f81 (by omega)) ?_
  rintro xv S5 ⟨hx, s5⟩
  refine ⟨s5, ?_⟩
  try simp only [↓stU, stD, reduceEqDiff, ↓reduceIte, ↓stV, stW, Nat.reduceAdd]
  refine runD_call0 rfl ?_
  try simp only [↓stU, stD, reduceEqDiff, ↓reduceIte, ↓stV, stW, Nat.reduceAdd]
  have s35 := s3.trans s5
  refine wpf_mono (mul_spec H.f103 H.f64 (h1.same (sS.trans s35)) hx (Fits.of hb.1 (by decide)) (Fits.of (small_pow (by omega)) (by decide))) ?_
  rintro yv S6 ⟨hy, s6⟩
  refine ⟨s6, ?_⟩
  simp only [↓stU, stD, reduceEqDiff, ↓reduceIte, ↓stV, stW, Nat.reduceAdd, evQ_faddr, faddr_ptr, isLoad_faddr, ld3_2 g2, lt1, not_false_eq_true, nat_self h2]
  refine runD_call0 rfl ?_
  try simp only [↓stU, stD, reduceEqDiff, ↓reduceIte, ↓stV, stW, Nat.reduceAdd]
  have s36 := s35.trans s6
  refine wpf_mono (down_spec H hy (h2.same (sS.trans s36)) (Fits.of hxB (by decide)) hd0) ?_
  rintro _ S7 ⟨zv, rfl, hz, s7⟩
  refine ⟨s7, ?_⟩
  simp only [↓stU, stD, reduceEqDiff, ↓reduceIte, ↓stV, stW, Nat.reduceAdd, ex0, ex1]
  have s27 := s36.trans s7
  rw [hA] at hz hAB hzf
  generalize (decide (p.num < 0) != decide (n < 0)) = neg at *
  refine wsr ?_
  simp only [↓stU, stD, reduceEqDiff, ↓reduceIte, ↓stV, stW, Nat.reduceAdd]
  refine wpo_call ?_
  try simp only [↓stU, stD, reduceEqDiff, ↓reduceIte, ↓stV, stW, Nat.reduceAdd]
  refine wpf_mono (uint_spec H (hz.same (Same.refl _)) (Fits.of hAB (by decide))) ?_
  rintro _ S8 ⟨⟨u, ok, rfl, hok, hu⟩, hS8⟩
  rw [hS8]
  simp only [↓stU, stD, reduceEqDiff, ↓reduceIte, ↓stV, stW, Nat.reduceAdd, ex0, ex1]
  have fin : Same S ⟨S7.h, S7.nx⟩ := sS.trans s27
  cases ok with
  | false =>
    have hbig : ¬ A ≤ 18446744073709551615 := fun k => by have := hok.2 k; cases this
    have hn : ¬ InI (zfl p n) := fun k => by
      rw [← hzf] at k; unfold InI sg at k
      split at k <;> omega
    rw [show intV (zfl p n) = 0 from if_neg hn, show intE (zfl p n) = 5 from if_neg hn]
    refine wpc_seq (wpc_block (wpc_seq (wpc_reg ?_)))
    simp only [↓stU, stD, reduceEqDiff, ↓reduceIte, ↓stV, stW, Nat.reduceAdd]
    refine wpc_non (by simp only [↓stU, stD, reduceEqDiff, ↓reduceIte, ↓stV, stW, Nat.reduceAdd]) ?_
    refine wsr ?_
    simp only [↓stU, stD, reduceEqDiff, ↓reduceIte, ↓stV, stW, Nat.reduceAdd]
    refine wpc_non (by simp only [↓stU, stD, reduceEqDiff, ↓reduceIte, ↓stV, stW, Nat.reduceAdd]) (wpc_skip ?_)
    try simp only [↓stU, stD, reduceEqDiff, ↓reduceIte, ↓stV, stW, Nat.reduceAdd]
    refine wsr ?_
    simp only [↓stU, stD, reduceEqDiff, ↓reduceIte, ↓stV, stW, Nat.reduceAdd]
    refine wpc_ret ?_
    simp only [↓stU, stD, reduceEqDiff, ↓reduceIte, ↓stV, stW, Nat.reduceAdd]
    exact fin
  | true =>
  have hA64 := hok.1 rfl
  have huA := hu rfl
  subst huA
  cases neg with
  | false =>
    rw [show sg false u = (u : Int) from rfl] at hzf
    by_cases hle : u ≤ 9223372036854775807
    · have hi : InI (zfl p n) := by rw [← hzf]; unfold InI; omega
      rw [show intV (zfl p n) = zfl p n from if_pos hi, show intE (zfl p n) = 0 from if_pos hi, ← hzf]
      have w1 : IntKind.i64.wrap (u : Int) = (u : Int) := wrap_i64 (by omega) (by omega)
      refine wpc_seq (wpc_block (wpc_seq (wpc_reg ?_)))
      simp only [↓stU, stD, reduceEqDiff, ↓reduceIte, ↓stV, stW, Nat.reduceAdd, un_not, Bool.not_false, decide_eq_true (show (u : Int) ≤ 9223372036854775807 by omega)]
      refine wpc_yes (by simp only [↓stU, stD, reduceEqDiff, ↓reduceIte, ↓stV, stW, Nat.reduceAdd]) ?_
      refine wsr ?_
      simp only [↓stU, stD, reduceEqDiff, ↓reduceIte, ↓stV, stW, Nat.reduceAdd, w1]
      refine wpc_ret ?_
      simp only [↓stU, stD, reduceEqDiff, ↓reduceIte, ↓stV, stW, Nat.reduceAdd]
      exact fin
    · have hn : ¬ InI (zfl p n) := fun k => by rw [← hzf] at k; unfold InI at k; omega
      rw [show intV (zfl p n) = 0 from if_neg hn, show intE (zfl p n) = 5 from if_neg hn]
      refine wpc_seq (wpc_block (wpc_seq (wpc_reg ?_)))
      simp only [↓stU, stD, reduceEqDiff, ↓reduceIte, ↓stV, stW, Nat.reduceAdd, un_not, Bool.not_false, decide_eq_false (show ¬ (u : Int) ≤ 9223372036854775807 by omega)]
      refine wpc_non (by simp only [↓stU, stD, reduceEqDiff, ↓reduceIte, ↓stV, stW, Nat.reduceAdd]) ?_
      refine wsr ?_
      simp only [↓stU, stD, reduceEqDiff, ↓reduceIte, ↓stV, stW, Nat.reduceAdd]
      refine wpc_non (by simp only [↓stU, stD, reduceEqDiff, ↓reduceIte, ↓stV, stW, Nat.reduceAdd]) (wpc_skip ?_)
      try simp only [↓stU, stD, reduceEqDiff, ↓reduceIte, ↓stV, stW, Nat.reduceAdd]
      refine wsr ?_
      simp only [↓stU, stD, reduceEqDiff, ↓reduceIte, ↓stV, stW, Nat.reduceAdd]
      refine wpc_ret ?_
      simp only [↓stU, stD, reduceEqDiff, ↓reduceIte, ↓stV, stW, Nat.reduceAdd]
      exact fin
  | true =>
    rw [show sg true u = -(u : Int) from rfl] at hzf
    by_cases hle : u ≤ 9223372036854775808
    · have hi : InI (zfl p n) := by rw [← hzf]; unfold InI; omega
      rw [show intV (zfl p n) = zfl p n from if_pos hi, show intE (zfl p n) = 0 from if_pos hi, ← hzf]
      obtain ⟨w, hw1, hw2⟩ : ∃ w, unV .neg (.int .u64 (u : Int)) = some (.int .u64 w) ∧ IntKind.i64.wrap w = -(u : Int) := by
        rcases Nat.eq_zero_or_pos u with h0 | h0
        · subst h0
          exact ⟨0, rfl, rfl⟩
        · refine ⟨_, un_neg64 h0 (by omega), ?_⟩
          simp only [IntKind.wrap, IntKind.signed, IntKind.bits, Bool.true_and]
          split <;> simp_all <;> omega
      refine wpc_seq (wpc_block (wpc_seq (wpc_reg ?_)))
      simp only [↓stU, stD, reduceEqDiff, ↓reduceIte, ↓stV, stW, Nat.reduceAdd, un_not, Bool.not_true]
      refine wpc_non (by simp only [↓stU, stD, reduceEqDiff, ↓reduceIte, ↓stV, stW, Nat.reduceAdd]) ?_
      refine wsr ?_
      simp only [↓stU, stD, reduceEqDiff, ↓reduceIte, ↓stV, stW, Nat.reduceAdd, decide_eq_true (show (u : Int) ≤ 9223372036854775808 by omega)]
      refine wpc_yes (by simp only [↓stU, stD, reduceEqDiff, ↓reduceIte, ↓stV, stW, Nat.reduceAdd]) ?_
      refine wsr ?_
      simp only [↓stU, stD, reduceEqDiff, ↓reduceIte, ↓stV, stW, Nat.reduceAdd, hw1, hw2]
      refine wpc_ret ?_
      simp only [↓stU, stD, reduceEqDiff, ↓reduceIte, ↓stV, stW, Nat.reduceAdd]
      exact fin
    · have hn : ¬ InI (zfl p n) := fun k => by rw [← hzf] at k; unfold InI at k; omega
      rw [show intV (zfl p n) = 0 from if_neg hn, show intE (zfl p n) = 5 from if_neg hn]
      refine wpc_seq (wpc_block (wpc_seq (wpc_reg ?_)))
      simp only [↓stU, stD, reduceEqDiff, ↓reduceIte, ↓stV, stW, Nat.reduceAdd, un_not, Bool.not_true]
      refine wpc_non (by simp only [↓stU, stD, reduceEqDiff, ↓reduceIte, ↓stV, stW, Nat.reduceAdd]) ?_
      refine wsr ?_
      simp only [↓stU, stD, reduceEqDiff, ↓reduceIte, ↓stV, stW, Nat.reduceAdd, decide_eq_false (show ¬ (u : Int) ≤ 9223372036854775808 by omega)]
      refine wpc_non (by simp only [↓stU, stD, reduceEqDiff, ↓reduceIte, ↓stV, stW, Nat.reduceAdd]) (wpc_skip ?_)
      try simp only [↓stU, stD, reduceEqDiff, ↓reduceIte, ↓stV, stW, Nat.reduceAdd]
      refine wsr ?_
      simp only [↓stU, stD, reduceEqDiff, ↓reduceIte, ↓stV, stW, Nat.reduceAdd]
      refine wpc_ret ?_
      simp only [↓stU, stD, reduceEqDiff, ↓reduceIte, ↓stV, stW, Nat.reduceAdd]
      exact fin

theorem xscale (H : Has fns) (h : Solo S a E p) (n1 : -9223372036854775808 ≤ n) (n2 : n ≤ 9223372036854775807) : wpf fns (.fn 46 [] []) [a, .int .i64 n] S fun r S' => r = .tup [.int .i64 (scV E p n), .int .i64 (scE E p n)] ∧ Same S S' := by
  obtain ⟨a0, a1, a2, rfl⟩ := h.cells
  unfold scV scE
  refine wpf_fn H.f46 (by simp) ?_
  simp only [↓stU, stD, reduceEqDiff, ↓reduceIte]
  refine wsr ?_
  refine wpo_box (by simp only [↓stU, stD, reduceEqDiff, ↓reduceIte, cells_agg]; rfl) ?_
  intro S1 s1 m1 c1
  simp only [↓stU, stD, reduceEqDiff, ↓reduceIte]
  refine wss ?_
  simp only [↓stU, stD, reduceEqDiff, ↓reduceIte, ld3 c1]
  refine wpo_call ?_
  try simp only [↓stU, stD, reduceEqDiff, ↓reduceIte]
  refine wpf_mono (h.xcheck H S1 s1) ?_
  rintro _ S2 ⟨rfl, s2⟩
  try simp only [↓stU, stD, reduceEqDiff, ↓reduceIte]
  refine wsr ?_
  simp only [↓stU, stD, reduceEqDiff, ↓reduceIte]
  by_cases hE : E = 0
  rotate_left
  · rw [if_neg hE, if_neg hE]
    refine wpc_yes (by simp only [↓stU, stD, reduceEqDiff, ↓reduceIte, decide_eq_true (show E ≠ 0 from hE)]) ?_
    refine wsr ?_
    simp only [↓stU, stD, reduceEqDiff, ↓reduceIte]
    refine wpc_ret ?_
    simp only [↓stU, stD, reduceEqDiff, ↓reduceIte]
    exact s1.trans s2
  rw [if_pos hE, if_pos hE]
  refine wpc_non (by simp only [↓stU, stD, reduceEqDiff, ↓reduceIte, decide_eq_false (show ¬ E ≠ 0 from fun h => h hE)]) (wpc_skip ?_)
  try simp only [↓stU, stD, reduceEqDiff, ↓reduceIte]
  obtain ⟨hr, hb⟩ := h.ok hE
  have g2 : S2.h.get S.nx = some (.cells [a0, a1, a2] false 0) := by rw [s2.2 _ (by omega)]; exact c1
  have sS := s1.trans s2
  have lt1 : S.nx < S2.nx := by have := s2.1; omega
  have hnb : Bnd 30 (n : Rat) := by
    refine ⟨?_, Nat.one_lt_pow (by decide) (by decide)⟩
    rw [(int_num n).1]
    exact lt_pow_up (small_pow (by omega)) (by decide)
  have hpn : Bnd 60 (p * (n : Rat)) := Bnd.mul hb hnb
  refine wpc_seq (wpc_drd1 (fun _ => False) ?_)
  intro S3 s3
  simp only [↓stU, stD, reduceEqDiff, ↓reduceIte, ↓stV, stW, Nat.reduceAdd, ld3 g2, lt1, not_false_eq_true, self_rat hr]
  refine runD_call0 rfl ?_
  try simp only [↓stU, stD, reduceEqDiff, ↓reduceIte, ↓stV, stW, Nat.reduceAdd]
  refine wpf_mono (xwhole_spec H n1 n2) ?_
  rintro v4 S4 ⟨h4, s4⟩
  refine ⟨s4, ?_⟩
  try simp only [↓stU, stD, reduceEqDiff, ↓reduceIte, ↓stV, stW, Nat.reduceAdd]
  refine runD_call0 rfl ?_
  try simp only [↓stU, stD, reduceEqDiff, ↓reduceIte, ↓stV, stW, Nat.reduceAdd]
  refine wpf_mono (xtimesR_spec H (hr.same (sS.trans (s3.trans s4))) h4 hb hnb (by decide)) ?_
  rintro v5 S5 ⟨h5, s5⟩
  refine ⟨s5, ?_⟩
  try simp only [↓stU, stD, reduceEqDiff, ↓reduceIte, ↓stV, stW, Nat.reduceAdd]
  refine runD_call0 rfl ?_
  try simp only [↓stU, stD, reduceEqDiff, ↓reduceIte, ↓stV, stW, Nat.reduceAdd]
  refine wpf_mono (xdown_spec H h5 hpn (by decide)) ?_
  rintro v6 S6 ⟨h6, s6⟩
  refine ⟨s6, ?_⟩
  try simp only [↓stU, stD, reduceEqDiff, ↓reduceIte, ↓stV, stW, Nat.reduceAdd]
  refine runD_call0 rfl ?_
  try simp only [↓stU, stD, reduceEqDiff, ↓reduceIte, ↓stV, stW, Nat.reduceAdd]
  have hfit : Fits (flr (p * (n : Rat))).natAbs := by
    rw [← floor_sg, sg_natAbs]
    exact Fits.of (dn_lt hpn.1) (by decide)
  refine wpf_mono (xint_spec H h6 hfit) ?_
  rintro _ S7 ⟨rfl, s7⟩
  refine ⟨s7, ?_⟩
  simp only [↓stU, stD, reduceEqDiff, ↓reduceIte, ↓stV, stW, Nat.reduceAdd, ex0, ex1]
  refine wpc_ret ?_
  simp only [↓stU, stD, reduceEqDiff, ↓reduceIte, ↓stV, stW, Nat.reduceAdd]
  rw [flr_mul]
  exact ⟨rfl, sS.trans (s3.trans (s4.trans (s5.trans (s6.trans s7))))⟩
end
end Go.Ev.Gl

namespace Go.Ev.Gl
variable {fns : T AFn}

theorem fit_opt {E : Int} {q : Rat} (h : E = 0 → InBound q) : ∀ r, opt E q = some r → FitsR r := fun r hr => by
  unfold opt at hr
  split at hr
  · rename_i hE
    cases hr
    exact (h hE).half.fits
  · cases hr
/-- what holds between the calls of 'RatWholes' -/
structure WhJ (S : St) (b7 b9 : Nat) (ca c7 c9 : List AV) (X : St) : Prop where
  same : Same S X
  g3 : X.h.get S.nx = some (.cells ca false 0)
  g7 : X.h.get b7 = some (.cells c7 false 0)
  g9 : X.h.get b9 = some (.cells c9 false 0)
  l7 : S.nx < b7
  l9 : b7 < b9
  ln : b9 < X.nx
  n7 : noInt c7 = true
  n9 : noInt c9 = true
section
variable {S X Y : St} {b7 b9 : Nat} {ca c7 c9 : List AV}
theorem WhJ.step (h : WhJ S b7 b9 ca c7 c9 X) (hs : Same X Y) : WhJ S b7 b9 ca c7 c9 Y := by
  have e1 := h.l9
  have e2 := h.ln
  have e3 := h.l7
  exact ⟨h.same.trans hs, by rw [hs.2 _ (by omega)]; exact h.g3, by rw [hs.2 _ (by omega)]; exact h.g7, by rw [hs.2 _ (by omega)]; exact h.g9, h.l7, h.l9, Nat.lt_of_lt_of_le h.ln hs.1, h.n7, h.n9⟩
theorem WhJ.put7 (h : WhJ S b7 b9 ca c7 c9 X) {c : List AV} (hs : SameBut b7 X Y) (hg : Y.h.get b7 = some (.cells c false 0)) (hn : noInt c = true) : WhJ S b7 b9 ca c c9 Y := by
  have e1 := h.l9
  have e2 := h.ln
  have e3 := h.l7
  exact ⟨hs.same h.same (by omega), by rw [hs.2 _ (by omega) (by omega)]; exact h.g3, hg, by rw [hs.2 _ (by omega) (by omega)]; exact h.g9, h.l7, h.l9, Nat.lt_of_lt_of_le h.ln hs.1, hn, h.n9⟩
theorem WhJ.put9 (h : WhJ S b7 b9 ca c7 c9 X) {c : List AV} (hs : SameBut b9 X Y) (hg : Y.h.get b9 = some (.cells c false 0)) (hn : noInt c = true) : WhJ S b7 b9 ca c7 c Y := by
  have e1 := h.l9
  have e2 := h.ln
  have e3 := h.l7
  exact ⟨hs.same h.same (by omega), by rw [hs.2 _ (by omega) (by omega)]; exact h.g3, by rw [hs.2 _ (by omega) (by omega)]; exact h.g7, hg, h.l7, h.l9, Nat.lt_of_lt_of_le h.ln hs.1, h.n7, hn⟩
end

theorem make_in {s : Bool} {l m : List Nat} (h : partsE l m = 0) : InBound (RQ s l m) := by
  obtain ⟨⟨a1, a2⟩, ⟨b1, b2⟩, b3⟩ := partsE_zero.1 h
  have hm0 : val m ≠ 0 := fun e => b3 ((norm_zero b2).1 e)
  obtain ⟨k1, k2⟩ := mkRat_le (n := sg s (val l)) (d := val m) hm0
  rw [sg_natAbs] at k1
  exact ⟨Nat.lt_of_le_of_lt k1 ((norm_len_iff a2 1024).1 a1), Nat.lt_of_le_of_lt k2 ((norm_len_iff b2 1024).1 b1)⟩
/-- THE LAW 'RatWholes', in the evaluator. -/
theorem wholes_spec {S : St} {a : AV} {s : Bool} {l m : List Nat} {x n : Int} (H : Has fns) (hL : Laid S) (_ : Fresh S) (haw : ∀ S, Laid S → wpf fns (.fn 11 [] []) [] S fun r S' => r = .bool true ∧ Same S S') (ha : RawIs S a s l m) (hx : -9223372036854775808 ≤ x ∧ x ≤ 9223372036854775807) (hn : -9223372036854775808 ≤ n ∧ n ≤ 9223372036854775807) :
    wpf fns (.fn 8 [] []) [a, .int .i64 x, .int .i64 n] S fun r S' => r = .bool true ∧ Same S S' := by
  obtain ⟨nv, dv, rfl, hl, hm⟩ := id ha
  refine wpf_fn H.f8 (by simp) ?_
  simp only [↓stU, stD, reduceEqDiff, ↓reduceIte]
  refine wsr ?_
  refine wpo_box (by simp only [↓stU, stD, reduceEqDiff, ↓reduceIte, cells_agg]; rfl) ?_
  intro S1 s1 n1 c1
  simp only [↓stU, stD, reduceEqDiff, ↓reduceIte]
  refine wss ?_
  simp only [↓stU, stD, reduceEqDiff, ↓reduceIte, ld3 c1]
  refine wpo_call ?_
  try simp only [↓stU, stD, reduceEqDiff, ↓reduceIte]
  refine wpf_mono (long_spec H (ha.same s1)) ?_
  rintro _ S2 ⟨rfl, s2⟩
  try simp only [↓stU, stD, reduceEqDiff, ↓reduceIte]
  have sS := s1.trans s2
  have g3 : S2.h.get S.nx = some (.cells [.bool s, nv, dv] false 0) := by rw [s2.2 _ (by omega)]; exact c1
  cases hlong : longB l m with
  | true =>
    refine wpc_yes (by simp only [↓stU, stD, reduceEqDiff, ↓reduceIte]) ?_
    refine wsr ?_
    refine wpo_call ?_
    try simp only [↓stU, stD, reduceEqDiff, ↓reduceIte]
    refine wpf_mono (haw S2 (hL.same sS)) ?_
    rintro _ X ⟨rfl, x⟩
    try simp only [↓stU, stD, reduceEqDiff, ↓reduceIte]
    refine wpc_ret ?_
    simp only [↓stU, stD, reduceEqDiff, ↓reduceIte]
    exact sS.trans x
  | false =>
  refine wpc_non (by simp only [↓stU, stD, reduceEqDiff, ↓reduceIte]) (wpc_skip ?_)
  try simp only [↓stU, stD, reduceEqDiff, ↓reduceIte]
  have P0 := solo_of ha hlong
  have l2 := s2.1
  refine wsr ?_
  simp only [↓stU, stD, reduceEqDiff, ↓reduceIte]
  refine wpo_call ?_
  try simp only [↓stU, stD, reduceEqDiff, ↓reduceIte]
  refine wpf_mono (pof H (hL.same sS) hx.1 hx.2 hn.1 hn.2) ?_
  rintro _ X1 ⟨hr, x1⟩
  obtain ⟨v0, v1, v2, rfl, hv⟩ := hr.opt
  simp only [↓stU, stD, reduceEqDiff, ↓reduceIte, ex0, ex1]
  refine wpo_alloc ?_
  intro X2 x2 nx2 d2
  have hv := hv.same x2
  try simp only [↓stU, stD, reduceEqDiff, ↓reduceIte]
  refine wpo_st (b := X1.nx) (by simp only [↓stU, stD, reduceEqDiff, ↓reduceIte]) (by simp only [↓stU, stD, reduceEqDiff, ↓reduceIte, cells_agg]; rfl) d2 rfl rfl ?_
  intro X3 x3 nx3 d3
  have hv := hv.st d2 rfl x3 d3
  have l1 := x1.1
  have t3 : Same S2 X3 := x3.same (x1.trans x2) (by omega)
  simp only [↓stU, stD, reduceEqDiff, ↓reduceIte]
  refine wsr ?_
  simp only [↓stU, stD, reduceEqDiff, ↓reduceIte]
  refine wpo_call ?_
  try simp only [↓stU, stD, reduceEqDiff, ↓reduceIte]
  refine wpf_mono (xof H hx.1 hx.2 hn.1 hn.2) ?_
  rintro _ X4 ⟨hr, x4⟩
  obtain ⟨w0, w1, w2, rfl, hw⟩ := hr.opt
  have hv := hv.same x4
  have d4 : X4.h.get X1.nx = some (.cells [v0, v1, v2] false 0) := by rw [x4.2 _ (by omega)]; exact d3
  have n14 : X1.nx < X4.nx := by have := x4.1; omega
  simp only [↓stU, stD, reduceEqDiff, ↓reduceIte, ex0, ex1]
  refine wpo_alloc ?_
  intro X5 x5 nx5 d5
  have hv := hv.same x5
  have hw := hw.same x5
  try simp only [↓stU, stD, reduceEqDiff, ↓reduceIte]
  refine wpo_st (b := X4.nx) (by simp only [↓stU, stD, reduceEqDiff, ↓reduceIte]) (by simp only [↓stU, stD, reduceEqDiff, ↓reduceIte, cells_agg]; rfl) d5 rfl rfl ?_
  intro X6 x6 nx6 d6
  have d6' : X6.h.get X1.nx = some (.cells [v0, v1, v2] false 0) := by rw [x6.2 _ (by omega) (by omega), x5.2 _ (by omega)]; exact d4
  have t5 : Same S2 X5 := t3.trans (x4.trans x5)
  have t6 : Same S2 X6 := x6.same t5 (by have := x4.1; omega)
  have J : WhJ S X1.nx X4.nx [.bool s, nv, dv] [v0, v1, v2] [w0, w1, w2] X6 := ⟨sS.trans t6, by rw [t6.2 _ (by omega)]; exact g3, d6', d6, by omega, n14, by omega, hv.noI, hw.noI⟩
  have hv := hv.st d5 rfl x6 d6
  have hw := hw.st d5 rfl x6 d6
  simp only [↓stU, stD, reduceEqDiff, ↓reduceIte]
  generalize X1.nx = b7 at *
  generalize X4.nx = b9 at *
  refine wss ?_
  simp only [↓stU, stD, reduceEqDiff, ↓reduceIte, ld3 J.g7, ld3 J.g9]
  refine wpo_call ?_
  try simp only [↓stU, stD, reduceEqDiff, ↓reduceIte]
  refine wpf_mono (sameOpt H hv hw (fit_opt fun h => by
    unfold ofE at h
    by_cases hb : n = 0
    · rw [if_pos hb] at h; cases h
    · exact (ratio_bnd x n (by omega) (by omega) hb).inBound (by decide))) ?_
  rintro _ Y1 ⟨rfl, y⟩
  have J := J.step y
  simp only [↓stU, stD, reduceEqDiff, ↓reduceIte, un_not, Bool.not_true, ne_eq, not_true_eq_false, decide_false]
  refine wpc_non (by simp only [↓stU, stD, reduceEqDiff, ↓reduceIte]) (wpc_skip ?_)
  try simp only [↓stU, stD, reduceEqDiff, ↓reduceIte]
  clear hv hw
  refine wsr ?_
  simp only [↓stU, stD, reduceEqDiff, ↓reduceIte, evQ_faddr, faddr_ptr, ld3_0 J.g3, ld3_1 J.g3, ld3_2 J.g3]
  refine wpo_call ?_
  try simp only [↓stU, stD, reduceEqDiff, ↓reduceIte]
  refine wpf_mono (pmake H (hL.same J.same) (hl.same J.same) (hm.same J.same)) ?_
  rintro _ X2a ⟨hr, x'⟩
  obtain ⟨v0, v1, v2, rfl, hv⟩ := hr.opt
  have J := J.step x'
  simp only [↓stU, stD, reduceEqDiff, ↓reduceIte, ex0, ex1]
  refine wpo_st (b := b7) (by simp only [↓stU, stD, reduceEqDiff, ↓reduceIte]) (by simp only [↓stU, stD, reduceEqDiff, ↓reduceIte, cells_agg]; rfl) J.g7 rfl rfl ?_
  intro X2b x' nx d
  have hv := hv.st J.g7 J.n7 x' d
  have J := J.put7 x' d hv.noI
  simp only [↓stU, stD, reduceEqDiff, ↓reduceIte]
  refine wsr ?_
  simp only [↓stU, stD, reduceEqDiff, ↓reduceIte, evQ_faddr, faddr_ptr, ld3_0 J.g3, ld3_1 J.g3, ld3_2 J.g3]
  refine wpo_call ?_
  try simp only [↓stU, stD, reduceEqDiff, ↓reduceIte]
  refine wpf_mono (xmake H (hl.same J.same) (hm.same J.same)) ?_
  rintro _ X2c ⟨hr, x'⟩
  obtain ⟨w0, w1, w2, rfl, hw⟩ := hr.opt
  have hv := hv.same x'
  have J := J.step x'
  simp only [↓stU, stD, reduceEqDiff, ↓reduceIte, ex0, ex1]
  refine wpo_st (b := b9) (by simp only [↓stU, stD, reduceEqDiff, ↓reduceIte]) (by simp only [↓stU, stD, reduceEqDiff, ↓reduceIte, cells_agg]; rfl) J.g9 rfl rfl ?_
  intro X2d x' nx d
  have hv := hv.st J.g9 J.n9 x' d
  have hw := hw.st J.g9 J.n9 x' d
  have J := J.put9 x' d hw.noI
  simp only [↓stU, stD, reduceEqDiff, ↓reduceIte]
  refine wss ?_
  simp only [↓stU, stD, reduceEqDiff, ↓reduceIte, ld3 J.g7, ld3 J.g9]
  refine wpo_call ?_
  try simp only [↓stU, stD, reduceEqDiff, ↓reduceIte]
  refine wpf_mono (sameOpt H hv hw (fit_opt fun h => make_in h)) ?_
  rintro _ Y2 ⟨rfl, y⟩
  have J := J.step y
  simp only [↓stU, stD, reduceEqDiff, ↓reduceIte, un_not, Bool.not_true, ne_eq, not_true_eq_false, decide_false]
  refine wpc_non (by simp only [↓stU, stD, reduceEqDiff, ↓reduceIte]) (wpc_skip ?_)
  try simp only [↓stU, stD, reduceEqDiff, ↓reduceIte]
  clear hv hw
  refine wsr ?_
  simp only [↓stU, stD, reduceEqDiff, ↓reduceIte, ld3 J.g3]
  refine wpo_call ?_
  try simp only [↓stU, stD, reduceEqDiff, ↓reduceIte]
  refine wpf_mono (pfloor H (hL.same J.same) (P0.same J.same)) ?_
  rintro _ X3a ⟨hr, x'⟩
  obtain ⟨v0, v1, v2, rfl, hv⟩ := hr.opt
  have J := J.step x'
  simp only [↓stU, stD, reduceEqDiff, ↓reduceIte, ex0, ex1]
  refine wpo_st (b := b7) (by simp only [↓stU, stD, reduceEqDiff, ↓reduceIte]) (by simp only [↓stU, stD, reduceEqDiff, ↓reduceIte, cells_agg]; rfl) J.g7 rfl rfl ?_
  intro X3b x' nx d
  have hv := hv.st J.g7 J.n7 x' d
  have J := J.put7 x' d hv.noI
  simp only [↓stU, stD, reduceEqDiff, ↓reduceIte]
  refine wsr ?_
  simp only [↓stU, stD, reduceEqDiff, ↓reduceIte, ld3 J.g3]
  refine wpo_call ?_
  try simp only [↓stU, stD, reduceEqDiff, ↓reduceIte]
  refine wpf_mono (xfloor H (P0.same J.same)) ?_
  rintro _ X3c ⟨hr, x'⟩
  obtain ⟨w0, w1, w2, rfl, hw⟩ := hr.opt
  have hv := hv.same x'
  have J := J.step x'
  simp only [↓stU, stD, reduceEqDiff, ↓reduceIte, ex0, ex1]
  refine wpo_st (b := b9) (by simp only [↓stU, stD, reduceEqDiff, ↓reduceIte]) (by simp only [↓stU, stD, reduceEqDiff, ↓reduceIte, cells_agg]; rfl) J.g9 rfl rfl ?_
  intro X3d x' nx d
  have hv := hv.st J.g9 J.n9 x' d
  have hw := hw.st J.g9 J.n9 x' d
  have J := J.put9 x' d hw.noI
  simp only [↓stU, stD, reduceEqDiff, ↓reduceIte]
  refine wss ?_
  simp only [↓stU, stD, reduceEqDiff, ↓reduceIte, ld3 J.g7, ld3 J.g9]
  refine wpo_call ?_
  try simp only [↓stU, stD, reduceEqDiff, ↓reduceIte]
  refine wpf_mono (sameOpt H hv hw (fit_opt fun h => fl_in (P0.ok h).2)) ?_
  rintro _ Y3 ⟨rfl, y⟩
  have J := J.step y
  simp only [↓stU, stD, reduceEqDiff, ↓reduceIte, un_not, Bool.not_true, ne_eq, not_true_eq_false, decide_false]
  refine wpc_non (by simp only [↓stU, stD, reduceEqDiff, ↓reduceIte]) (wpc_skip ?_)
  try simp only [↓stU, stD, reduceEqDiff, ↓reduceIte]
  clear hv hw
  refine wsr ?_
  simp only [↓stU, stD, reduceEqDiff, ↓reduceIte, ld3 J.g3]
  refine wpo_call ?_
  try simp only [↓stU, stD, reduceEqDiff, ↓reduceIte]
  refine wpf_mono (pceil H (hL.same J.same) (P0.same J.same)) ?_
  rintro _ X4a ⟨hr, x'⟩
  obtain ⟨v0, v1, v2, rfl, hv⟩ := hr.opt
  have J := J.step x'
  simp only [↓stU, stD, reduceEqDiff, ↓reduceIte, ex0, ex1]
  refine wpo_st (b := b7) (by simp only [↓stU, stD, reduceEqDiff, ↓reduceIte]) (by simp only [↓stU, stD, reduceEqDiff, ↓reduceIte, cells_agg]; rfl) J.g7 rfl rfl ?_
  intro X4b x' nx d
  have hv := hv.st J.g7 J.n7 x' d
  have J := J.put7 x' d hv.noI
  simp only [↓stU, stD, reduceEqDiff, ↓reduceIte]
  refine wsr ?_
  simp only [↓stU, stD, reduceEqDiff, ↓reduceIte, ld3 J.g3]
  refine wpo_call ?_
  try simp only [↓stU, stD, reduceEqDiff, ↓reduceIte]
  refine wpf_mono (xceil H (P0.same J.same)) ?_
  rintro _ X4c ⟨hr, x'⟩
  obtain ⟨w0, w1, w2, rfl, hw⟩ := hr.opt
  have hv := hv.same x'
  have J := J.step x'
  simp only [↓stU, stD, reduceEqDiff, ↓reduceIte, ex0, ex1]
  refine wpo_st (b := b9) (by simp only [↓stU, stD, reduceEqDiff, ↓reduceIte]) (by simp only [↓stU, stD, reduceEqDiff, ↓reduceIte, cells_agg]; rfl) J.g9 rfl rfl ?_
  intro X4d x' nx d
  have hv := hv.st J.g9 J.n9 x' d
  have hw := hw.st J.g9 J.n9 x' d
  have J := J.put9 x' d hw.noI
  simp only [↓stU, stD, reduceEqDiff, ↓reduceIte]
  refine wsr ?_
  simp only [↓stU, stD, reduceEqDiff, ↓reduceIte, ld3 J.g3]
  refine wpo_call ?_
  try simp only [↓stU, stD, reduceEqDiff, ↓reduceIte]
  refine wpf_mono (pscale H (hL.same J.same) (P0.same J.same) hn.1 hn.2) ?_
  rintro _ X5a ⟨rfl, x'⟩
  have hv := hv.same x'
  have hw := hw.same x'
  have J := J.step x'
  simp only [↓stU, stD, reduceEqDiff, ↓reduceIte, ex0, ex1]
  refine wsr ?_
  simp only [↓stU, stD, reduceEqDiff, ↓reduceIte, ld3 J.g3]
  refine wpo_call ?_
  try simp only [↓stU, stD, reduceEqDiff, ↓reduceIte]
  refine wpf_mono (xscale H (P0.same J.same) hn.1 hn.2) ?_
  rintro _ X5b ⟨rfl, x'⟩
  have hv := hv.same x'
  have hw := hw.same x'
  have J := J.step x'
  simp only [↓stU, stD, reduceEqDiff, ↓reduceIte, ex0, ex1]
  refine wsr ?_
  simp only [↓stU, stD, reduceEqDiff, ↓reduceIte, ld3 J.g7, ld3 J.g9]
  refine wpo_call ?_
  try simp only [↓stU, stD, reduceEqDiff, ↓reduceIte]
  refine wpf_mono (sameOpt H hv hw (fit_opt fun h => cel_in (P0.ok h).2)) ?_
  rintro _ X6' ⟨rfl, x6'⟩
  have J := J.step x6'
  simp only [↓stU, stD, reduceEqDiff, ↓reduceIte, decide_true]
  refine wpo_call ?_
  try simp only [↓stU, stD, reduceEqDiff, ↓reduceIte]
  refine wpf_mono (haw X6' (hL.same J.same)) ?_
  rintro _ X7 ⟨rfl, x7⟩
  try simp only [↓stU, stD, reduceEqDiff, ↓reduceIte]
  refine wpc_ret ?_
  simp only [↓stU, stD, reduceEqDiff, ↓reduceIte]
  exact J.same.trans x7
end Go.Ev.Gl
