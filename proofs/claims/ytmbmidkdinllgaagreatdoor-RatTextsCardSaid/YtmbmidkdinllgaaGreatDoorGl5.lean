/- Contracts (5): rational numbers, the statements' tools, the law. -/
import Derived.Test.YtmbmidkdinllgaaGreatDoorGl4
open Nat (reduceEqDiff)
set_option maxHeartbeats 4000000
set_option linter.unusedSimpArgs false
set_option linter.unusedVariables false
namespace Go.Ev.Gl
variable {fns : T AFn}

/-! ## The reference's greatest common divisor and lowest terms -/
def XComI (S : St) (K g : Nat) (k : Nat) (A : Act') (S' : St) : Prop :=
  A.inr = false ∧ ∃ (a b : AV) (x : Nat), tmpV 0 A.F = a ∧ tmpV 1 A.F = b ∧ NatIs S' a x ∧ NatIs S' b k ∧ x < B ^ K ∧ k < B ^ K ∧ Nat.gcd x k = g ∧ Same S S'

theorem xcommon_spec {S : St} {a b : AV} {x y K : Nat} (H : Has fns) (ha : NatIs S a x) (hb : NatIs S b y) (hx : x < B ^ K) (hy : y < B ^ K) (hK : K ≤ 19000) : wpf fns (.fn 52 [] []) [a, b] S fun r S' => NatIs S' r (Nat.gcd x y) ∧ Same S S' := by
  refine wpf_fn H.f52 (by simp) ?_
  simp only [↓stU, stD, reduceEqDiff, ↓reduceIte]
  refine wsr ?_
  simp only [↓stU, stD, reduceEqDiff, ↓reduceIte]
  refine wpc_seq (wpc_block (wpc_loop (XComI S K (Nat.gcd x y)) ?_ y _ _ ⟨rfl, a, b, x, by simp only [↓stU, stD, reduceEqDiff, ↓reduceIte], by simp only [↓stU, stD, reduceEqDiff, ↓reduceIte], ha, hb, hx, hy, rfl, Same.refl _⟩))
  rintro k ⟨F, inr⟩ S' ⟨q0, a, b, x, p0, p1, ha, hb, hx, hk, hg, hS⟩
  simp only at q0 p0 p1
  subst q0
  obtain ⟨n, hn, hn0⟩ := lenpos hb
  refine wss ?_
  simp only [↓stU, stD, reduceEqDiff, ↓reduceIte, p1, hn]
  by_cases hk0 : k = 0
  · refine wpc_non (by simp only [↓stU, stD, reduceEqDiff, ↓reduceIte, decide_eq_false (show ¬ (0 : Int) < (n : Int) by omega)]) (wpc_exit ?_)
    simp only [↓stU, stD, reduceEqDiff, ↓reduceIte]
    refine wsr ?_
    simp only [↓stU, stD, reduceEqDiff, ↓reduceIte, p0]
    refine wpc_ret ?_
    simp only [↓stU, stD, reduceEqDiff, ↓reduceIte]
    rw [hk0, Nat.gcd_zero_right] at hg
    rw [← hg]
    exact ⟨ha, hS⟩
  · refine wpc_yes (by simp only [↓stU, stD, reduceEqDiff, ↓reduceIte, decide_eq_true (show (0 : Int) < (n : Int) by omega)]) (wpc_skip ?_)
    simp only [↓stU, stD, reduceEqDiff, ↓reduceIte]
    refine wpc_block (wpc_seq (wpc_reg ?_))
    simp only [↓stU, stD, reduceEqDiff, ↓reduceIte, p0, p1]
    refine wpo_call ?_
    simp only [↓stU, stD, reduceEqDiff, ↓reduceIte]
    refine wpf_mono (xover_spec H ha hb hx hK (by omega)) ?_
    rintro _ S2 ⟨q, u, rfl, hq, hu, hS2⟩
    simp only [↓stU, stD, reduceEqDiff, ↓reduceIte, ex0, ex1]
    refine wpc_reg ?_
    simp only [↓stU, stD, reduceEqDiff, ↓reduceIte, p1]
    refine ⟨x % k, Nat.mod_lt _ (by omega), rfl, b, u, k, by simp only [↓stU, stD, reduceEqDiff, ↓reduceIte], by simp only [↓stU, stD, reduceEqDiff, ↓reduceIte], hb.same hS2, hu, hk, Nat.lt_trans (Nat.mod_lt _ (by omega)) hk, ?_, hS.trans hS2⟩
    rw [← hg, Nat.gcd_comm, ← Nat.gcd_rec, Nat.gcd_comm]

theorem evQ_b1 {z0 z1 z2 : AV} {z : Opd} {F : Fr} {h : T AB} (h3 : (z.val F).cells = some [z.val F]) : evQ (.build [z0, z1, z2] [(2, 1, z)]) F h = some (.agg [z0, z1, z.val F]) := by
  show (osel (fillP [z0, z1, z2] (partsV F [(2, 1, z)])) fun cs => some (AV.agg cs)) = _
  simp only [partsV, fillP, h3, osel_some]
  rfl

theorem xlowest_spec {S : St} {neg : Bool} {a b : AV} {x y K : Nat} (H : Has fns) (ha : NatIs S a x) (hb : NatIs S b y) (hx : x < B ^ K) (hy : y < B ^ K) (hK : K ≤ 19000) (hy0 : 0 < y) : wpf fns (.fn 30 [] []) [.bool neg, a, b] S fun r S' => RatIs S' r (mkRat (sg neg x) y) ∧ Same S S' := by
  obtain ⟨n, hn, hn0⟩ := lenpos ha
  refine wpf_fn H.f30 (by simp) ?_
  simp only [↓stU, stD, reduceEqDiff, ↓reduceIte]
  refine wsr ?_
  refine wpo_alloc ?_
  intro S1 s1 n1 c1
  simp only [↓stU, stD, reduceEqDiff, ↓reduceIte]
  refine wss ?_
  simp only [↓stU, stD, reduceEqDiff, ↓reduceIte, hn]
  by_cases hx0 : x = 0
  · refine wpc_yes (by simp only [↓stU, stD, reduceEqDiff, ↓reduceIte, decide_eq_true (show (n : Int) = 0 by omega)]) ?_
    refine wsr ?_
    refine wpo_al (evA_one (k := .u32) (n := (1 : Int)) (by simp only [↓stU, stD, reduceEqDiff, ↓reduceIte])) ?_
    intro S2 s2 n2 c2
    simp only [↓stU, stD, reduceEqDiff, ↓reduceIte, evQ_b1, cells_sl]
    have hc : S2.h.get S.nx = some (.cells [.bool false, .nilsl, .nilsl] false 0) := by rw [s2.2 _ (by omega)]; exact c1
    have h1 : NatIs S2 (.sl S1.nx 0 1 1 false) 1 := ⟨[1], limbs_own (l := [1]) (o := false) (sz := 0) c2 (by omega) rfl (Nat.le_refl _), norm_one, val_one⟩
    have hv : RatIs S2 (.agg [.bool false, .nilsl, .sl S1.nx 0 1 1 false]) 0 := ratIs_zero h1
    refine wpo_st (b := S.nx) (by simp only [↓stU, stD, reduceEqDiff, ↓reduceIte]) (by simp only [↓stU, stD, reduceEqDiff, ↓reduceIte, cells_agg]; rfl) hc rfl rfl ?_
    intro S3 s3 n3 c3
    simp only [↓stU, stD, reduceEqDiff, ↓reduceIte]
    refine wpc_ret ?_
    simp only [↓stU, stD, reduceEqDiff, ↓reduceIte, results_cell, ld3 c3]
    rw [hx0, show sg neg 0 = 0 by cases neg <;> rfl, Rat.zero_mkRat]
    exact ⟨hv.st hc rfl s3 c3, s3.same (s1.trans s2) (Nat.le_refl _)⟩
  · refine wpc_non (by simp only [↓stU, stD, reduceEqDiff, ↓reduceIte, decide_eq_false (show ¬ (n : Int) = 0 by omega)]) (wpc_skip ?_)
    simp only [↓stU, stD, reduceEqDiff, ↓reduceIte]
    refine wsr ?_
    simp only [↓stU, stD, reduceEqDiff, ↓reduceIte]
    refine wpo_call ?_
    simp only [↓stU, stD, reduceEqDiff, ↓reduceIte]
    refine wpf_mono (xcommon_spec H (ha.same s1) (hb.same s1) hx hy hK) ?_
    rintro gv S2 ⟨hg, s2⟩
    try simp only [↓stU, stD, reduceEqDiff, ↓reduceIte]
    have hg0 : 0 < Nat.gcd x y := Nat.gcd_pos_of_pos_right _ hy0
    refine wsr ?_
    simp only [↓stU, stD, reduceEqDiff, ↓reduceIte]
    refine wpo_call ?_
    simp only [↓stU, stD, reduceEqDiff, ↓reduceIte]
    refine wpf_mono (xover_spec H (ha.same (s1.trans s2)) hg hx hK hg0) ?_
    rintro _ S3 ⟨q, u, rfl, hq, hu, s3⟩
    simp only [↓stU, stD, reduceEqDiff, ↓reduceIte, ex0, ex1]
    refine wsr ?_
    simp only [↓stU, stD, reduceEqDiff, ↓reduceIte]
    refine wpo_call ?_
    simp only [↓stU, stD, reduceEqDiff, ↓reduceIte]
    refine wpf_mono (xover_spec H (hb.same (s1.trans (s2.trans s3))) (hg.same s3) hy hK hg0) ?_
    rintro _ S4 ⟨q', u', rfl, hq', hu', s4⟩
    simp only [↓stU, stD, reduceEqDiff, ↓reduceIte, ex0, ex1]
    obtain ⟨l1, l2, l3⟩ := lowest (neg := neg) (n := x) (d := y) rfl (by omega)
    have hq4 := hq.same s4
    refine wsr ?_
    simp only [↓stU, stD, reduceEqDiff, ↓reduceIte, evQ_b3, cells_bool, nat_cells hq4, nat_cells hq']
    have hc : S4.h.get S.nx = some (.cells [.bool false, .nilsl, .nilsl] false 0) := by rw [(s2.trans (s3.trans s4)).2 _ (by omega)]; exact c1
    have hv : RatIs S4 (.agg [.bool neg, q, q']) (mkRat (sg neg x) y) := by
      rw [← l1]
      refine ratIs_mk hq4 hq' l3 l2 (fun h => ?_)
      have := Nat.div_pos (Nat.le_of_dvd (by omega) (Nat.gcd_dvd_left x y)) hg0
      omega
    refine wpo_st (b := S.nx) (by simp only [↓stU, stD, reduceEqDiff, ↓reduceIte]) (by simp only [↓stU, stD, reduceEqDiff, ↓reduceIte, cells_agg]; rfl) hc rfl rfl ?_
    intro S5 s5 n5 c5
    simp only [↓stU, stD, reduceEqDiff, ↓reduceIte]
    refine wpc_ret ?_
    simp only [↓stU, stD, reduceEqDiff, ↓reduceIte, results_cell, ld3 c5]
    exact ⟨hv.st hc rfl s5 c5, s5.same (s1.trans (s2.trans (s3.trans s4))) (Nat.le_refl _)⟩
end Go.Ev.Gl

namespace Go.Ev.Gl
variable {fns : T AFn}

/-! ## The reference's rational numbers -/
theorem norm_is_one {l : List Nat} (h : Norm l) : (l.length = 1 ∧ l[0]?.getD 0 = 1) ↔ val l = 1 := by
  rw [norm_val_one h]
  constructor
  · rintro ⟨h1, h2⟩
    obtain ⟨x, rfl⟩ := List.length_eq_one_iff.1 h1
    simp at h2
    rw [h2]
  · rintro rfl
    exact ⟨rfl, rfl⟩

theorem xparts_spec {S : St} {a b : AV} {l m : List Nat} (H : Has fns) (ha : LimbIs S a l) (hb : LimbIs S b m) : wpf fns (.fn 51 [] []) [a, b] S fun r S' => r = .int .i64 (partsE l m) ∧ S' = S := by
  refine wpf_fn H.f51 (by simp) ?_
  simp only [↓stU, stD, reduceEqDiff, ↓reduceIte]
  refine wsr ?_
  simp only [↓stU, stD, reduceEqDiff, ↓reduceIte]
  refine wss ?_
  simp only [↓stU, stD, reduceEqDiff, ↓reduceIte]
  refine wpo_call ?_
  simp only [↓stU, stD, reduceEqDiff, ↓reduceIte]
  refine wpf_mono (xcheck_spec H ha) ?_
  rintro _ S1 ⟨rfl, rfl⟩
  try simp only [↓stU, stD, reduceEqDiff, ↓reduceIte]
  unfold partsE
  refine wsr ?_
  simp only [↓stU, stD, reduceEqDiff, ↓reduceIte]
  by_cases h1 : chk l = 0
  rotate_left
  · refine wpc_yes (by simp only [↓stU, stD, reduceEqDiff, ↓reduceIte, decide_eq_true (show chk l ≠ 0 from h1)]) ?_
    refine wsr ?_
    simp only [↓stU, stD, reduceEqDiff, ↓reduceIte]
    refine wpc_ret ?_
    simp only [↓stU, stD, reduceEqDiff, ↓reduceIte, if_pos h1]
  refine wpc_non (by simp only [↓stU, stD, reduceEqDiff, ↓reduceIte, decide_eq_false (show ¬ chk l ≠ 0 from fun h => h h1)]) (wpc_skip ?_)
  simp only [↓stU, stD, reduceEqDiff, ↓reduceIte]
  refine wss ?_
  simp only [↓stU, stD, reduceEqDiff, ↓reduceIte]
  refine wpo_call ?_
  simp only [↓stU, stD, reduceEqDiff, ↓reduceIte]
  refine wpf_mono (xcheck_spec H hb) ?_
  rintro _ S1 ⟨rfl, rfl⟩
  try simp only [↓stU, stD, reduceEqDiff, ↓reduceIte]
  refine wsr ?_
  simp only [↓stU, stD, reduceEqDiff, ↓reduceIte]
  by_cases h2 : chk m = 0
  rotate_left
  · refine wpc_yes (by simp only [↓stU, stD, reduceEqDiff, ↓reduceIte, decide_eq_true (show chk m ≠ 0 from h2)]) ?_
    refine wsr ?_
    simp only [↓stU, stD, reduceEqDiff, ↓reduceIte]
    refine wpc_ret ?_
    simp only [↓stU, stD, reduceEqDiff, ↓reduceIte, if_neg (show ¬ chk l ≠ 0 from fun h => h h1), if_pos h2]
  refine wpc_non (by simp only [↓stU, stD, reduceEqDiff, ↓reduceIte, decide_eq_false (show ¬ chk m ≠ 0 from fun h => h h2)]) (wpc_skip ?_)
  simp only [↓stU, stD, reduceEqDiff, ↓reduceIte]
  rw [if_neg (show ¬ chk l ≠ 0 from fun h => h h1), if_neg (show ¬ chk m ≠ 0 from fun h => h h2)]
  refine wss ?_
  simp only [↓stU, stD, reduceEqDiff, ↓reduceIte, hb.len]
  by_cases h3 : m = []
  · refine wpc_yes (by simp only [↓stU, stD, reduceEqDiff, ↓reduceIte, decide_eq_true (show ((m.length : Nat) : Int) = 0 by rw [h3]; rfl)]) ?_
    refine wsr ?_
    simp only [↓stU, stD, reduceEqDiff, ↓reduceIte]
    refine wpc_ret ?_
    simp only [↓stU, stD, reduceEqDiff, ↓reduceIte, if_pos h3]
  have hp := List.length_pos_iff.2 h3
  refine wpc_non (by simp only [↓stU, stD, reduceEqDiff, ↓reduceIte, decide_eq_false (show ¬ ((m.length : Nat) : Int) = 0 by omega)]) (wpc_skip ?_)
  simp only [↓stU, stD, reduceEqDiff, ↓reduceIte]
  refine wsr ?_
  simp only [↓stU, stD, reduceEqDiff, ↓reduceIte]
  refine wpc_ret ?_
  simp only [↓stU, stD, reduceEqDiff, ↓reduceIte, if_neg h3]

theorem rxcheck_spec {S : St} {v : AV} {s : Bool} {l m : List Nat} (H : Has fns) (h : RawIs S v s l m) : wpf fns (.fn 20 [] []) [v] S fun r S' => r = .int .i64 (rchk s l m) ∧ Same S S' := by
  obtain ⟨nv, dv, rfl, h1, h2⟩ := h
  refine wpf_fn H.f20 (by simp) ?_
  simp only [↓stU, stD, reduceEqDiff, ↓reduceIte]
  refine wsr ?_
  refine wpo_box (by simp only [↓stU, stD, reduceEqDiff, ↓reduceIte, cells_agg]; rfl) ?_
  intro S1 s1 n1 c1
  simp only [↓stU, stD, reduceEqDiff, ↓reduceIte]
  refine wss ?_
  simp only [↓stU, stD, reduceEqDiff, ↓reduceIte, evQ_faddr, faddr_ptr, ld3_1 c1, ld3_2 c1]
  refine wpo_call ?_
  simp only [↓stU, stD, reduceEqDiff, ↓reduceIte]
  refine wpf_mono (xparts_spec H (h1.same s1) (h2.same s1)) ?_
  rintro _ S2 ⟨rfl, hS2⟩
  rw [hS2]
  try simp only [↓stU, stD, reduceEqDiff, ↓reduceIte]
  unfold rchk
  refine wsr ?_
  simp only [↓stU, stD, reduceEqDiff, ↓reduceIte]
  by_cases hp : partsE l m = 0
  rotate_left
  · refine wpc_yes (by simp only [↓stU, stD, reduceEqDiff, ↓reduceIte, decide_eq_true (show partsE l m ≠ 0 from hp)]) ?_
    refine wsr ?_
    simp only [↓stU, stD, reduceEqDiff, ↓reduceIte]
    refine wpc_ret ?_
    simp only [↓stU, stD, reduceEqDiff, ↓reduceIte, if_pos hp]
    exact s1
  refine wpc_non (by simp only [↓stU, stD, reduceEqDiff, ↓reduceIte, decide_eq_false (show ¬ partsE l m ≠ 0 from fun h => h hp)]) (wpc_skip ?_)
  simp only [↓stU, stD, reduceEqDiff, ↓reduceIte]
  rw [if_neg (show ¬ partsE l m ≠ 0 from fun h => h hp)]
  obtain ⟨⟨a1, a2⟩, ⟨b1, b2⟩, b3⟩ := partsE_zero.1 hp
  have hA : NatIs S1 nv (val l) := ⟨l, h1.same s1, a2, rfl⟩
  have hD : NatIs S1 dv (val m) := ⟨m, h2.same s1, b2, rfl⟩
  have hxl : val l < B ^ 1024 := (norm_len_iff a2 1024).1 a1
  have hyl : val m < B ^ 1024 := (norm_len_iff b2 1024).1 b1
  refine wpc_seq (wpc_seq (wpc_mono (Q := fun o A' S' => o = .normal ∧ A'.inr = false ∧ Same S1 S' ∧ ∃ b, tmpV 38 A'.F = .bool b ∧ (b = true ↔ (l = [] ∧ s = true) ∨ Nat.gcd (val l) (val m) ≠ 1)) ?_ ?_))
  · refine wpc_reg ?_
    simp only [↓stU, stD, reduceEqDiff, ↓reduceIte, evQ_faddr, faddr_ptr, ld3_1 c1, ld3_2 c1]
    refine wpo_call ?_
    simp only [↓stU, stD, reduceEqDiff, ↓reduceIte]
    refine wpf_mono (xcommon_spec H hA hD hxl hyl (by decide)) ?_
    rintro gv S3 ⟨⟨gl, g1, g2, g3⟩, s3⟩
    have c3 : S3.h.get S.nx = some (.cells [.bool s, nv, dv] false 0) := by rw [s3.2 _ (by omega)]; exact c1
    have hone := norm_is_one g2
    rw [g3] at hone
    by_cases hl1 : gl.length = 1
    · simp only [↓stU, stD, reduceEqDiff, ↓reduceIte, evQ_faddr, faddr_ptr, ld3_0 c3, ld3_1 c3, ld3_2 c3, g1.len, decide_eq_false (show ¬ ((gl.length : Nat) : Int) ≠ 1 by omega)]
      refine wpo_call ?_
      simp only [↓stU, stD, reduceEqDiff, ↓reduceIte]
      refine wpf_mono (xcommon_spec H (hA.same s3) (hD.same s3) hxl hyl (by decide)) ?_
      rintro gv2 S4 ⟨⟨gl2, k1, k2, k3⟩, s4⟩
      have : gl2 = gl := norm_inj k2 g2 (by rw [k3, g3])
      subst this
      have c4 : S4.h.get S.nx = some (.cells [.bool s, nv, dv] false 0) := by have := s3.1; rw [s4.2 _ (by omega)]; exact c3
      have hia := k1.iaddr (i := 0) (by omega)
      have hld := k1.ld (i := 0) (by omega)
      rw [List.getD_eq_getElem?_getD] at hld
      by_cases hg1 : gl2[0]?.getD 0 = 1
      · rw [hg1] at hld
        have hgcd := hone.1 ⟨hl1, hg1⟩
        cases s with
        | false =>
          simp only [↓stU, stD, reduceEqDiff, ↓reduceIte, evQ_faddr, faddr_ptr, ld3_0 c4, ld3_1 c4, ld3_2 c4, nat0, hia, hld, show decide ((((1 : Nat) : Int)) ≠ 1) = false from rfl]
          exact ⟨s3.trans s4, false, rfl, by simp [hgcd]⟩
        | true =>
          have hl := (h1.same s1).len
          simp only [↓stU, stD, reduceEqDiff, ↓reduceIte, evQ_faddr, faddr_ptr, ld3_0 c4, ld3_1 c4, ld3_2 c4, nat0, hia, hld, show decide ((((1 : Nat) : Int)) ≠ 1) = false from rfl, h1.len]
          refine ⟨s3.trans s4, decide (((l.length : Nat) : Int) = 0), rfl, ?_⟩
          simp [hgcd]
      · have hgcd : Nat.gcd (val l) (val m) ≠ 1 := fun e => hg1 (hone.2 e).2
        simp only [↓stU, stD, reduceEqDiff, ↓reduceIte, evQ_faddr, faddr_ptr, ld3_0 c4, ld3_1 c4, ld3_2 c4, nat0, hia, hld, decide_eq_true (show ((gl2[0]?.getD 0 : Nat) : Int) ≠ 1 by omega)]
        exact ⟨s3.trans s4, true, by simp only [↓stU, stD, reduceEqDiff, ↓reduceIte], by simp [hgcd]⟩
    · have hgcd : Nat.gcd (val l) (val m) ≠ 1 := fun e => hl1 (hone.2 e).1
      simp only [↓stU, stD, reduceEqDiff, ↓reduceIte, evQ_faddr, faddr_ptr, ld3_0 c3, ld3_1 c3, ld3_2 c3, g1.len, decide_eq_true (show ((gl.length : Nat) : Int) ≠ 1 by omega)]
      exact ⟨s3, true, by simp only [↓stU, stD, reduceEqDiff, ↓reduceIte], by simp [hgcd]⟩
  rintro o ⟨F, inr⟩ S3 ⟨rfl, q0, s3, b, p38, hb⟩
  simp only at q0 p38
  subst q0
  try simp only [↓stU, stD, reduceEqDiff, ↓reduceIte]
  have s13 := s1.trans s3
  cases b with
  | true =>
    refine wpc_yes (by simp only [↓stU, stD, reduceEqDiff, ↓reduceIte, p38]) ?_
    refine wsr ?_
    simp only [↓stU, stD, reduceEqDiff, ↓reduceIte]
    refine wpc_ret ?_
    simp only [↓stU, stD, reduceEqDiff, ↓reduceIte, if_pos (hb.1 rfl)]
    exact s13
  | false =>
    refine wpc_non (by simp only [↓stU, stD, reduceEqDiff, ↓reduceIte, p38]) (wpc_skip ?_)
    simp only [↓stU, stD, reduceEqDiff, ↓reduceIte]
    refine wsr ?_
    simp only [↓stU, stD, reduceEqDiff, ↓reduceIte]
    refine wpc_ret ?_
    simp only [↓stU, stD, reduceEqDiff, ↓reduceIte, if_neg (show ¬ ((l = [] ∧ s = true) ∨ Nat.gcd (val l) (val m) ≠ 1) from fun h => by have := hb.2 h; cases this)]
    exact s13

end Go.Ev.Gl

namespace Go.Ev.Gl
variable {fns : T AFn}

/-! ## The reference's rational numbers: sums, products, order -/
end Go.Ev.Gl

namespace Go.Ev.Gl
variable {fns : T AFn}

end Go.Ev.Gl

namespace Go.Ev.Gl
variable {fns : T AFn}

/-! ## Operations on two numbers that are looked at first -/
def ResIs (S : St) (r : AV) (o : Option Rat) (e : Int) : Prop := ∃ x y z, r = .tup [.agg [x, y, z], .int .i64 e] ∧ match o with
  | some q => RatIs S (.agg [x, y, z]) q
  | none => x = .bool false ∧ y = .nilsl ∧ z = .nilsl

end Go.Ev.Gl

namespace Go.Ev.Gl
variable {fns : T AFn}

/-- two numbers that are handed over: the error that they have, and what they are if there is none -/
structure Pair (S : St) (a b : AV) (E : Int) (p q : Rat) : Prop where
  raw : ∃ s l m t l2 m2, RawIs S a s l m ∧ RawIs S b t l2 m2 ∧ E = if rchk s l m ≠ 0 then rchk s l m else rchk t l2 m2
  ok : E = 0 → RatIs S a p ∧ RatIs S b q ∧ Bnd 30 p ∧ Bnd 30 q
theorem Pair.same {S S' : St} {a b : AV} {E : Int} {p q : Rat} (h : Pair S a b E p q) (hs : Same S S') : Pair S' a b E p q := by
  obtain ⟨⟨s, l, m, t, l2, m2, h1, h2, h3⟩, h4⟩ := h
  exact ⟨⟨s, l, m, t, l2, m2, h1.same hs, h2.same hs, h3⟩, fun hE => ⟨(h4 hE).1.same hs, (h4 hE).2.1.same hs, (h4 hE).2.2⟩⟩
theorem Pair.cells {S : St} {a b : AV} {E : Int} {p q : Rat} (h : Pair S a b E p q) : ∃ a0 a1 a2 b0 b1 b2, a = .agg [a0, a1, a2] ∧ b = .agg [b0, b1, b2] := by
  obtain ⟨⟨s, l, m, t, l2, m2, ⟨n1, d1, rfl, _⟩, ⟨n2, d2, rfl, _⟩, _⟩, _⟩ := h
  exact ⟨_, _, _, _, _, _, rfl, rfl⟩
def opt (E : Int) (q : Rat) : Option Rat := if E = 0 then some q else none
theorem opt_no {E : Int} (h : E ≠ 0) (q : Rat) : opt E q = none := if_neg h
theorem bnd_in {p : Rat} (hp : Bnd 30 p) : InBound p := hp.inBound (by decide)

section
variable {S : St} {a b : AV} {E : Int} {p q : Rat}

/-! ### the reference's -/
end
end Go.Ev.Gl

namespace Go.Ev.Gl
variable {fns : T AFn}

/-! ## Comparing; copies; equality -/
section
variable {S : St} {a b : AV} {E : Int} {p q : Rat}
end

/-- equal parts, equal numbers -/
theorem sameRaw {S : St} {a b : AV} {s : Bool} {l m : List Nat} (H : Has fns) (ha : RawIs S a s l m) (hb : RawIs S b s l m) (hl : l.length ≤ 1000000) (hm : m.length ≤ 1000000) : wpf fns (.fn 10 [] []) [a, b] S fun r S' => r = .bool true ∧ Same S S' := by
  obtain ⟨nv, dv, rfl, h1, h2⟩ := ha
  obtain ⟨mv, ev, rfl, h3, h4⟩ := hb
  refine wpf_fn H.f10 (by simp) ?_
  simp only [↓stU, stD, reduceEqDiff, ↓reduceIte]
  refine wsr ?_
  refine wpo_box (by simp only [↓stU, stD, reduceEqDiff, ↓reduceIte, cells_agg]; rfl) ?_
  intro S1 hS1 hn1 hb1
  refine wpo_box (by simp only [↓stU, stD, reduceEqDiff, ↓reduceIte, cells_agg]; rfl) ?_
  intro S2 hS2 hn2 hb2
  simp only [↓stU, stD, reduceEqDiff, ↓reduceIte]
  have hS := hS1.trans hS2
  have g1 : S2.h.get S.nx = some (.cells [.bool s, nv, dv] false 0) := by rw [hS2.2 _ (by omega)]; exact hb1
  refine wsr ?_
  simp only [↓stU, stD, reduceEqDiff, ↓reduceIte, evQ_faddr, faddr_ptr, ld3_0 g1, ld3_0 hb2, ld3_1 g1, ld3_1 hb2, eq_bool, beq_self_eq_true]
  refine wpo_call ?_
  simp only [↓stU, stD, reduceEqDiff, ↓reduceIte]
  refine wpf_mono (alike_spec H (h1.same hS) (h3.same hS) hl) ?_
  rintro _ S3 ⟨rfl, hS3⟩
  have g1' : S3.h.get S.nx = some (.cells [.bool s, nv, dv] false 0) := by rw [hS3.2 _ (by omega)]; exact g1
  have g2' : S3.h.get S1.nx = some (.cells [.bool s, mv, ev] false 0) := by rw [hS3.2 _ (by omega)]; exact hb2
  simp only [↓stU, stD, reduceEqDiff, ↓reduceIte, decide_true, evQ_faddr, faddr_ptr, ld3_2 g1', ld3_2 g2']
  refine wpo_call ?_
  simp only [↓stU, stD, reduceEqDiff, ↓reduceIte]
  refine wpf_mono (alike_spec H (h2.same (hS.trans hS3)) (h4.same (hS.trans hS3)) hm) ?_
  rintro _ S4 ⟨rfl, hS4⟩
  simp only [↓stU, stD, reduceEqDiff, ↓reduceIte, decide_true]
  refine wpc_ret ?_
  simp only [↓stU, stD, reduceEqDiff, ↓reduceIte]
  exact hS.trans (hS3.trans hS4)

/-- a number or none, as cells -/
def OptIs (S : St) (cs : List AV) (o : Option Rat) : Prop := match o with
  | some q => RatIs S (.agg cs) q
  | none => cs = [.bool false, .nilsl, .nilsl]
theorem OptIs.same {S S' : St} {cs : List AV} {o : Option Rat} (h : OptIs S cs o) (hs : Same S S') : OptIs S' cs o := by
  cases o with
  | none => exact h
  | some q => exact RatIs.same h hs
theorem ResIs.opt {S : St} {r : AV} {o : Option Rat} {e : Int} (h : ResIs S r o e) : ∃ x y z, r = .tup [.agg [x, y, z], .int .i64 e] ∧ OptIs S [x, y, z] o := by
  obtain ⟨x, y, z, h1, h2⟩ := h
  refine ⟨x, y, z, h1, ?_⟩
  cases o with
  | none => obtain ⟨rfl, rfl, rfl⟩ := h2; rfl
  | some q => exact h2
theorem OptIs.st {S S' : St} {cs0 : List AV} {o : Option Rat} {b : Nat} {cs cs' : List AV} {e e' : Bool} {s s' : Nat} (h : OptIs S cs0 o) (hb : S.h.get b = some (.cells cs e s)) (hn : noInt cs = true) (hs : SameBut b S S') (hb' : S'.h.get b = some (.cells cs' e' s')) : OptIs S' cs0 o := by
  cases o with
  | none => exact h
  | some q => exact RatIs.st h hb hn hs hb'
theorem sameOpt {S : St} {x y z x' y' z' : AV} {o : Option Rat} (H : Has fns) (ha : OptIs S [x, y, z] o) (hb : OptIs S [x', y', z'] o) (ho : ∀ q, o = some q → FitsR q) : wpf fns (.fn 10 [] []) [.agg [x, y, z], .agg [x', y', z']] S fun r S' => r = .bool true ∧ Same S S' := by
  cases o with
  | none =>
    cases ha
    cases hb
    have h : RawIs S (.agg [.bool false, .nilsl, .nilsl]) false [] [] := ⟨_, _, rfl, .inl ⟨rfl, .inl rfl⟩, .inl ⟨rfl, .inl rfl⟩⟩
    exact sameRaw H h h (by simp) (by simp)
  | some q =>
    refine wpf_mono (sameRat_spec H ha hb (ho q rfl)) ?_
    rintro r S' ⟨rfl, hs⟩
    exact ⟨by rw [decide_eq_true rfl], hs⟩

theorem Fresh.alloc {S : St} (h : Fresh S) (bl : AB) : Fresh ⟨S.h.set S.nx (some bl), S.nx + 1⟩ := fun b hb => by
  simp only at hb ⊢
  rw [T.get_set, if_neg (by omega)]
  exact h b (by omega)

end Go.Ev.Gl

namespace Go.Ev.Gl
variable {fns : T AFn}

/-! ## 'RatSums' -/
theorem RawIs.st {S S' : St} {v : AV} {s : Bool} {l m : List Nat} {b : Nat} {cs cs' : List AV} {o o' : Bool} {z z' : Nat} (h : RawIs S v s l m) (hb : S.h.get b = some (.cells cs o z)) (hn : noInt cs = true) (hs : SameBut b S S') (hb' : S'.h.get b = some (.cells cs' o' z')) : RawIs S' v s l m := by
  obtain ⟨nv, dv, h1, h2, h3⟩ := h
  exact ⟨nv, dv, h1, h2.st hb hn hs hb', h3.st hb hn hs hb'⟩
theorem RawIs.cells {S : St} {v : AV} {s : Bool} {l m : List Nat} (h : RawIs S v s l m) : ∃ x y z, v = .agg [x, y, z] := by
  obtain ⟨nv, dv, rfl, _⟩ := h
  exact ⟨_, _, _, rfl⟩
def longB (l m : List Nat) : Bool := decide ((30 : Int) < ((l.length : Nat) : Int)) && decide (((l.length : Nat) : Int) ≤ 1024) || decide ((30 : Int) < ((m.length : Nat) : Int)) && decide (((m.length : Nat) : Int) ≤ 1024) || decide ((1100 : Int) < ((l.length : Nat) : Int)) || decide ((1100 : Int) < ((m.length : Nat) : Int))

theorem long_spec {S : St} {v : AV} {s : Bool} {l m : List Nat} (H : Has fns) (h : RawIs S v s l m) : wpf fns (.fn 4 [] []) [v] S fun r S' => r = .bool (longB l m) ∧ Same S S' := by
  obtain ⟨nv, dv, rfl, h1, h2⟩ := h
  have k1 := h1.len
  have k2 := h2.len
  unfold longB
  refine wpf_fn H.f4 (by simp) ?_
  simp only [↓stU, stD, reduceEqDiff, ↓reduceIte]
  refine wsr ?_
  refine wpo_box (by simp only [↓stU, stD, reduceEqDiff, ↓reduceIte, cells_agg]; rfl) ?_
  intro S1 s1 n1 c1
  simp only [↓stU, stD, reduceEqDiff, ↓reduceIte]
  refine wpc_seq (wpc_mono (Q := fun o A' S' => o = .normal ∧ S' = S1 ∧ tmpV 2 A'.F = .bool (decide ((30 : Int) < ((l.length : Nat) : Int)) && decide (((l.length : Nat) : Int) ≤ 1024) || decide ((30 : Int) < ((m.length : Nat) : Int)) && decide (((m.length : Nat) : Int) ≤ 1024) || decide ((1100 : Int) < ((l.length : Nat) : Int)) || decide ((1100 : Int) < ((m.length : Nat) : Int)))) (wpc_reg ?_) ?_)
  · obtain ⟨x1, hx1⟩ : ∃ x, decide ((30 : Int) < ((l.length : Nat) : Int)) = x := ⟨_, rfl⟩
    obtain ⟨x2, hx2⟩ : ∃ x, decide (((l.length : Nat) : Int) ≤ 1024) = x := ⟨_, rfl⟩
    obtain ⟨x3, hx3⟩ : ∃ x, decide ((30 : Int) < ((m.length : Nat) : Int)) = x := ⟨_, rfl⟩
    obtain ⟨x4, hx4⟩ : ∃ x, decide (((m.length : Nat) : Int) ≤ 1024) = x := ⟨_, rfl⟩
    obtain ⟨x5, hx5⟩ : ∃ x, decide ((1100 : Int) < ((l.length : Nat) : Int)) = x := ⟨_, rfl⟩
    obtain ⟨x6, hx6⟩ : ∃ x, decide ((1100 : Int) < ((m.length : Nat) : Int)) = x := ⟨_, rfl⟩
    cases x1 <;> cases x2 <;> cases x3 <;> cases x4 <;> cases x5 <;> cases x6 <;> simp only [↓stU, stD, reduceEqDiff, ↓reduceIte, evQ_faddr, faddr_ptr, ld3_1 c1, ld3_2 c1, k1, k2, hx1, hx2, hx3, hx4, hx5, hx6, Bool.and_true, Bool.and_false, Bool.or_true, Bool.or_false, Bool.and_self, Bool.or_self]
  rintro o ⟨F, inr⟩ S2 ⟨rfl, rfl, p2⟩
  simp only at p2
  try simp only [↓stU, stD, reduceEqDiff, ↓reduceIte]
  refine wpc_ret ?_
  simp only [↓stU, stD, reduceEqDiff, ↓reduceIte, p2]
  exact s1

theorem long_not {l m : List Nat} (h : longB l m = false) : (l.length ≤ 1024 → l.length ≤ 30) ∧ (m.length ≤ 1024 → m.length ≤ 30) ∧ l.length ≤ 1100 ∧ m.length ≤ 1100 := by
  unfold longB at h
  simp only [Bool.or_eq_false_iff, Bool.and_eq_false_iff, decide_eq_false_iff_not] at h
  omega

def RQ (s : Bool) (l m : List Nat) : Rat := mkRat (sg s (val l)) (val m)
theorem raw_rat {S : St} {v : AV} {s : Bool} {l m : List Nat} (h : RawIs S v s l m) (hr : rchk s l m = 0) (h1 : l.length ≤ 1024 → l.length ≤ 30) (h2 : m.length ≤ 1024 → m.length ≤ 30) : RatIs S v (RQ s l m) ∧ Bnd 30 (RQ s l m) := by
  obtain ⟨nv, dv, rfl, k1, k2⟩ := h
  obtain ⟨hp, hn, hc⟩ := rchk_zero.1 hr
  obtain ⟨⟨a1, a2⟩, ⟨b1, b2⟩, b3⟩ := partsE_zero.1 hp
  have hm0 : val m ≠ 0 := fun e => b3 ((norm_zero b2).1 e)
  have hneg : val l = 0 → s = false := fun e => by
    have := (norm_zero a2).1 e
    cases s with
    | false => rfl
    | true => exact absurd ⟨this, rfl⟩ hn
  refine ⟨ratIs_mk ⟨l, k1, a2, rfl⟩ ⟨m, k2, b2, rfl⟩ hm0 hc hneg, ?_⟩
  obtain ⟨e1, e2⟩ := rat_mk (n := sg s (val l)) (d := val m) hm0 (by rw [sg_natAbs]; exact hc)
  unfold Bnd RQ
  rw [e1, e2, sg_natAbs]
  exact ⟨lt_pow_up (val_lt a2.1) (h1 a1), lt_pow_up (val_lt b2.1) (h2 b1)⟩
/-- what holds between the calls of 'RatSums' -/
structure SumI (S : St) (b5 b6 : Nat) (ca cb co cu : List AV) (s : Bool) (l m : List Nat) (t : Bool) (l2 m2 : List Nat) (X : St) : Prop where
  same : Same S X
  fresh : Fresh X
  g2 : X.h.get S.nx = some (.cells ca false 0)
  g3 : X.h.get (S.nx + 1) = some (.cells cb false 0)
  g5 : X.h.get b5 = some (.cells co false 0)
  g6 : X.h.get b6 = some (.cells cu false 0)
  ro : RawIs X (.agg co) s l m
  ru : RawIs X (.agg cu) t l2 m2
  l3 : S.nx + 1 < b5
  l5 : b5 < b6
  l6 : b6 < X.nx
section
variable {S X Y : St} {b5 b6 : Nat} {ca cb co cu : List AV} {s t : Bool} {l m l2 m2 : List Nat}
theorem SumI.step (h : SumI S b5 b6 ca cb co cu s l m t l2 m2 X) (hs : Same X Y) (hf : Frs X Y) : SumI S b5 b6 ca cb co cu s l m t l2 m2 Y := by
  have e1 := h.l3
  have e2 := h.l5
  have e3 := h.l6
  exact ⟨h.same.trans hs, hf.1 h.fresh, by rw [hs.2 _ (by omega)]; exact h.g2, by rw [hs.2 _ (by omega)]; exact h.g3, by rw [hs.2 _ (by omega)]; exact h.g5, by rw [hs.2 _ (by omega)]; exact h.g6, h.ro.same hs, h.ru.same hs, h.l3, h.l5, Nat.lt_of_lt_of_le h.l6 hs.1⟩
theorem SumI.put (h : SumI S b5 b6 ca cb co cu s l m t l2 m2 X) {b : Nat} {cs cs' : List AV} {e e' : Bool} {z z' : Nat} (hb : b6 < b) (hg : X.h.get b = some (.cells cs e z)) (hn : noInt cs = true) (hs : SameBut b X Y) (hg' : Y.h.get b = some (.cells cs' e' z')) (hf : Frs X Y) : SumI S b5 b6 ca cb co cu s l m t l2 m2 Y := by
  have e1 := h.l3
  have e2 := h.l5
  have e3 := h.l6
  exact ⟨hs.same h.same (by omega), hf.1 h.fresh, by rw [hs.2 _ (by omega) (by omega)]; exact h.g2, by rw [hs.2 _ (by omega) (by omega)]; exact h.g3, by rw [hs.2 _ (by omega) (by omega)]; exact h.g5, by rw [hs.2 _ (by omega) (by omega)]; exact h.g6, h.ro.st hg hn hs hg', h.ru.st hg hn hs hg', h.l3, h.l5, Nat.lt_of_lt_of_le h.l6 hs.1⟩
end
end Go.Ev.Gl

namespace Go.Ev.Gl
variable {fns : T AFn}

/-! ## The reference's ints and rounding -/
end Go.Ev.Gl

namespace Go.Ev.Gl
variable {fns : T AFn}

/-! ## The simplest number: plain facts -/
end Go.Ev.Gl

namespace Go.Ev.Gl
variable {fns : T AFn}

/-! ## Operations on one number that is looked at first -/
/-- a number that is handed over -/
structure Solo (S : St) (a : AV) (E : Int) (p : Rat) : Prop where
  raw : ∃ s l m, RawIs S a s l m ∧ E = rchk s l m
  ok : E = 0 → RatIs S a p ∧ Bnd 30 p
theorem Solo.same {S S' : St} {a : AV} {E : Int} {p : Rat} (h : Solo S a E p) (hs : Same S S') : Solo S' a E p := by
  obtain ⟨⟨s, l, m, h1, h2⟩, h3⟩ := h
  exact ⟨⟨s, l, m, h1.same hs, h2⟩, fun hE => ⟨(h3 hE).1.same hs, (h3 hE).2⟩⟩
theorem solo_of {S : St} {a : AV} {s : Bool} {l m : List Nat} (h : RawIs S a s l m) (hl : longB l m = false) : Solo S a (rchk s l m) (RQ s l m) := by
  obtain ⟨k1, k2, _, _⟩ := long_not hl
  exact ⟨⟨s, l, m, h, rfl⟩, fun hE => raw_rat h hE k1 k2⟩
section
variable {S : St} {a : AV} {E : Int} {p : Rat}
theorem Solo.cells (h : Solo S a E p) : ∃ a0 a1 a2, a = .agg [a0, a1, a2] := by
  obtain ⟨⟨s, l, m, h1, _⟩, _⟩ := h
  exact h1.cells
theorem Solo.check (H : Has fns) (hL : Laid S) (h : Solo S a E p) : ∀ S1, Same S S1 → wpf fns (.fn 17 [] []) [a] S1 fun r S' => r = .int .i64 E ∧ Same S1 S' := by
  obtain ⟨⟨s, l, m, h1, h2⟩, _⟩ := h
  intro S1 hs
  rw [h2]
  exact check_spec H (hL.same hs) (h1.same hs)
theorem Solo.xcheck (H : Has fns) (h : Solo S a E p) : ∀ S1, Same S S1 → wpf fns (.fn 20 [] []) [a] S1 fun r S' => r = .int .i64 E ∧ Same S1 S' := by
  obtain ⟨⟨s, l, m, h1, h2⟩, _⟩ := h
  intro S1 hs
  rw [h2]
  exact rxcheck_spec H (h1.same hs)
end
end Go.Ev.Gl
