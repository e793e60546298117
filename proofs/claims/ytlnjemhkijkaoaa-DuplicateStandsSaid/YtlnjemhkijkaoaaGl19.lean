/- Contracts (19): rational numbers, the statements' tools, the law. -/
import Derived.Test.YtlnjemhkijkaoaaGl18
open Nat (reduceEqDiff reduceAdd)
set_option maxHeartbeats 4000000
set_option linter.unusedSimpArgs false
set_option linter.unusedVariables false
namespace Go.Ev.Gl
open Go.Sort
variable {fns : T AFn}

/-! ## Ranks, and how they are compared -/
/-- cmp.Compare -/
def cmpZ (a b : Int) : Int := if a < b then -1 else if b < a then 1 else 0
theorem compare_spec {S : St} {a b : Int} (H : Has fns) : wpf fns (.fn 23 [] []) [.int .i64 a, .int .i64 b] S fun r S' => r = .int .i64 (cmpZ a b) ∧ S' = S := by
  refine wpf_fn H.f23 (by simp) ?_
  simp only [↓stU, stD, reduceEqDiff, ↓reduceIte, reduceAdd]
  refine wsr ?_
  simp only [↓stU, stD, reduceEqDiff, ↓reduceIte, reduceAdd]
  refine wsr ?_
  simp only [↓stU, stD, reduceEqDiff, ↓reduceIte]
  refine wpo_call ?_
  simp only [↓stU, stD, reduceEqDiff, ↓reduceIte]
  refine wpf_mono (isNaN_spec H) ?_
  rintro _ _ ⟨rfl, rfl⟩
  try simp only [↓stU, stD, reduceEqDiff, ↓reduceIte]
  refine wsr ?_
  simp only [↓stU, stD, reduceEqDiff, ↓reduceIte]
  refine wpo_call ?_
  simp only [↓stU, stD, reduceEqDiff, ↓reduceIte]
  refine wpf_mono (isNaN_spec H) ?_
  rintro _ _ ⟨rfl, rfl⟩
  try simp only [↓stU, stD, reduceEqDiff, ↓reduceIte]
  refine wss ?_
  simp only [↓stU, stD, reduceEqDiff, ↓reduceIte]
  refine wpc_non (by simp only [↓stU, stD, reduceEqDiff, ↓reduceIte]) (wpc_skip ?_)
  try simp only [↓stU, stD, reduceEqDiff, ↓reduceIte]
  refine wss ?_
  simp only [↓stU, stD, reduceEqDiff, ↓reduceIte]
  refine wpc_non (by simp only [↓stU, stD, reduceEqDiff, ↓reduceIte]) (wpc_skip ?_)
  try simp only [↓stU, stD, reduceEqDiff, ↓reduceIte]
  refine wss ?_
  simp only [↓stU, stD, reduceEqDiff, ↓reduceIte]
  unfold cmpZ
  by_cases h1 : a < b
  · rw [if_pos h1]
    refine wpc_yes (by simp only [↓stU, stD, reduceEqDiff, ↓reduceIte, decide_eq_true h1]) (wpc_seq (wpc_reg ?_))
    simp only [↓stU, stD, reduceEqDiff, ↓reduceIte]
    refine wpc_ret ?_
    simp only [↓stU, stD, reduceEqDiff, ↓reduceIte]
    rfl
  rw [if_neg h1]
  refine wpc_non (by simp only [↓stU, stD, reduceEqDiff, ↓reduceIte, decide_eq_false h1]) (wpc_skip ?_)
  try simp only [↓stU, stD, reduceEqDiff, ↓reduceIte]
  refine wss ?_
  simp only [↓stU, stD, reduceEqDiff, ↓reduceIte]
  by_cases h2 : b < a
  · rw [if_pos h2]
    refine wpc_yes (by simp only [↓stU, stD, reduceEqDiff, ↓reduceIte, decide_eq_true h2]) (wpc_seq (wpc_reg ?_))
    simp only [↓stU, stD, reduceEqDiff, ↓reduceIte]
    refine wpc_ret ?_
    simp only [↓stU, stD, reduceEqDiff, ↓reduceIte]
  rw [if_neg h2]
  refine wpc_non (by simp only [↓stU, stD, reduceEqDiff, ↓reduceIte, decide_eq_false h2]) (wpc_skip ?_)
  try simp only [↓stU, stD, reduceEqDiff, ↓reduceIte]
  refine wsr ?_
  simp only [↓stU, stD, reduceEqDiff, ↓reduceIte]
  refine wpc_ret ?_
  simp only [↓stU, stD, reduceEqDiff, ↓reduceIte]
/-- cmp.Or of two -/
theorem or_spec {S : St} {v : AV} {x y : Int} (H : Has fns) (h : IsSl .i64 S v [x, y]) : wpf fns (.fn 15 [] []) [v] S fun r S' => r = .int .i64 (if x ≠ 0 then x else y) ∧ S' = S := by
  refine wpf_fn H.f15 (by simp) ?_
  simp only [↓stU, stD, reduceEqDiff, ↓reduceIte, reduceAdd]
  refine wsr ?_
  simp only [↓stU, stD, reduceEqDiff, ↓reduceIte, reduceAdd]
  refine wsr ?_
  simp only [↓stU, stD, reduceEqDiff, ↓reduceIte]
  have hl := h.len
  simp only [List.length_cons, List.length_nil, Nat.zero_add, reduceAdd, Int.cast_ofNat_Int] at hl
  refine wpc_seq (wpc_mono (Q := fun o A' X => X = S ∧ (o = .ret ∧ tmpV 2 A'.F = .int .i64 (if x ≠ 0 then x else y) ∨ o = .normal ∧ x = 0 ∧ y = 0 ∧ tmpV 3 A'.F = .int .i64 0)) (wpc_seq (wpc_reg ?_)) ?_)
  · simp only [↓stU, stD, reduceEqDiff, ↓reduceIte, hl]
    refine wpc_block (wpc_loop (fun k A' X => A'.inr = false ∧ X = S ∧ ∃ i : Nat, i + k = 2 ∧ (0 < i → x = 0) ∧ (1 < i → y = 0) ∧ tmpV 3 A'.F = .int .i64 0 ∧ tmpV 6 A'.F = v ∧ tmpV 7 A'.F = .int .i64 2 ∧ tmpV 8 A'.F = .int .i64 (i : Int)) ?_ 2 _ _ ⟨rfl, rfl, 0, rfl, by omega, by omega, by simp only [↓stU, stD, reduceEqDiff, ↓reduceIte], by simp only [↓stU, stD, reduceEqDiff, ↓reduceIte], by simp only [↓stU, stD, reduceEqDiff, ↓reduceIte], by simp only [↓stU, stD, reduceEqDiff, ↓reduceIte]⟩)
    rintro k ⟨F, inr⟩ X ⟨q0, rfl, i, hik, hx, hy, p3, p6, p7, p8⟩
    simp only at q0 p3 p6 p7 p8
    subst q0
    refine wsr ?_
    simp only [↓stU, stD, reduceEqDiff, ↓reduceIte, p7, p8]
    by_cases hi : i < 2
    · refine wpc_seq (wpc_yes (by simp only [↓stU, stD, reduceEqDiff, ↓reduceIte, decide_eq_true (show (i : Int) < 2 by omega)]) (wpc_skip ?_))
      try simp only [↓stU, stD, reduceEqDiff, ↓reduceIte]
      have hil : i < [x, y].length := hi
      have ia := h.iaddr hil
      have la := h.ld hil
      obtain ⟨w, hw⟩ : ∃ w, w = [x, y].getD i 0 := ⟨_, rfl⟩
      rw [← hw] at la
      refine wpc_seq (wpc_block (wpc_seq (wpc_reg ?_)))
      simp only [↓stU, stD, reduceEqDiff, ↓reduceIte, p6, p8, natOf_cast, ia, la]
      refine wsr ?_
      simp only [↓stU, stD, reduceEqDiff, ↓reduceIte, p3]
      have hwx : i = 0 → w = x := fun e => by subst e; exact hw
      have hwy : i = 1 → w = y := fun e => by subst e; exact hw
      by_cases hw0 : w = 0
      · refine wpc_non (by simp only [↓stU, stD, reduceEqDiff, ↓reduceIte, decide_eq_false (show ¬ w ≠ 0 from fun h => h hw0)]) (wpc_skip ?_)
        try simp only [↓stU, stD, reduceEqDiff, ↓reduceIte]
        refine wpc_reg ?_
        simp only [↓stU, stD, reduceEqDiff, ↓reduceIte, p8, wadd1 (a := i) (by omega)]
        exact ⟨k - 1, by omega, i + 1, by omega, by omega, by omega, p3, p6, p7, rfl⟩
      · refine wpc_yes (by simp only [↓stU, stD, reduceEqDiff, ↓reduceIte, decide_eq_true hw0]) (wpc_seq (wpc_reg ?_))
        simp only [↓stU, stD, reduceEqDiff, ↓reduceIte]
        refine wpc_ret ?_
        simp only [↓stU, stD, reduceEqDiff, ↓reduceIte]
        refine .inl ?_
        congr 1
        by_cases e : i = 0
        · rw [hwx e] at hw0 ⊢
          rw [if_pos hw0]
        · rw [hx (by omega), if_neg (fun h => h rfl)]
          exact hwy (by omega)
    · refine wpc_seq (wpc_non (by simp only [↓stU, stD, reduceEqDiff, ↓reduceIte, decide_eq_false (show ¬ (i : Int) < 2 by omega)]) (wpc_exit ?_))
      exact ⟨rfl, .inr ⟨rfl, hx (by omega), hy (by omega), by simp only [↓stU, stD, reduceEqDiff, ↓reduceIte, p3]⟩⟩
  rintro o ⟨F, inr⟩ X ⟨rfl, ⟨rfl, p2⟩ | ⟨rfl, hx, hy, p3⟩⟩
  · simp only at p2
    simp only [↓stU, stD, reduceEqDiff, ↓reduceIte, p2]
  simp only at p3
  try simp only [↓stU, stD, reduceEqDiff, ↓reduceIte]
  refine wsr ?_
  simp only [↓stU, stD, reduceEqDiff, ↓reduceIte, p3]
  refine wpc_ret ?_
  simp only [↓stU, stD, reduceEqDiff, ↓reduceIte]
  rw [hx, hy, if_neg (fun h => h rfl)]
/-- a rank as a value -/
def rkV (r : Int × Int × Int) : AV := .agg [.int .i64 r.1, .int .i64 r.2.1, .int .i64 r.2.2]
theorem byPoints_spec {S : St} {r s : Int × Int × Int} (H : Has fns) : wpf fns (.fn 16 [] []) [rkV r, rkV s] S fun v S' => v = .int .i64 (cmpZ s.2.1 r.2.1) ∧ Same S S' := by
  refine wpf_fn H.f16 (by simp) ?_
  simp only [↓stU, stD, reduceEqDiff, ↓reduceIte, reduceAdd]
  refine wsr ?_
  refine wpo_box (cs := [.int .i64 r.1, .int .i64 r.2.1, .int .i64 r.2.2]) rfl ?_
  intro S1 s1 n1 c1
  refine wpo_box (cs := [.int .i64 s.1, .int .i64 s.2.1, .int .i64 s.2.2]) (by simp only [↓stU, stD, reduceEqDiff, ↓reduceIte]; rfl) ?_
  intro S2 s2 n2 c2
  have c1' := (s2.2 _ (show S.nx < S1.nx by omega)).trans c1
  simp only [↓stU, stD, reduceEqDiff, ↓reduceIte]
  refine wsr ?_
  simp only [↓stU, stD, reduceEqDiff, ↓reduceIte, evQ_faddr, faddr_ptr, isLoad_faddr, lg3_1 c1', lg3_1 c2]
  refine wpo_call ?_
  simp only [↓stU, stD, reduceEqDiff, ↓reduceIte]
  refine wpf_mono (compare_spec H) ?_
  rintro _ _ ⟨rfl, rfl⟩
  try simp only [↓stU, stD, reduceEqDiff, ↓reduceIte]
  refine wpc_ret ?_
  simp only [↓stU, stD, reduceEqDiff, ↓reduceIte]
  exact s1.trans s2
theorem byNumber_spec {S : St} {r s : Int × Int × Int} (H : Has fns) : wpf fns (.fn 17 [] []) [rkV r, rkV s] S fun v S' => v = .int .i64 (cmpZ r.1 s.1) ∧ Same S S' := by
  refine wpf_fn H.f17 (by simp) ?_
  simp only [↓stU, stD, reduceEqDiff, ↓reduceIte, reduceAdd]
  refine wsr ?_
  refine wpo_box (cs := [.int .i64 r.1, .int .i64 r.2.1, .int .i64 r.2.2]) rfl ?_
  intro S1 s1 n1 c1
  refine wpo_box (cs := [.int .i64 s.1, .int .i64 s.2.1, .int .i64 s.2.2]) (by simp only [↓stU, stD, reduceEqDiff, ↓reduceIte]; rfl) ?_
  intro S2 s2 n2 c2
  have c1' := (s2.2 _ (show S.nx < S1.nx by omega)).trans c1
  simp only [↓stU, stD, reduceEqDiff, ↓reduceIte]
  refine wsr ?_
  simp only [↓stU, stD, reduceEqDiff, ↓reduceIte, evQ_faddr, faddr_ptr, isLoad_faddr, lg3_0 c1', lg3_0 c2]
  refine wpo_call ?_
  simp only [↓stU, stD, reduceEqDiff, ↓reduceIte]
  refine wpf_mono (compare_spec H) ?_
  rintro _ _ ⟨rfl, rfl⟩
  try simp only [↓stU, stD, reduceEqDiff, ↓reduceIte]
  refine wpc_ret ?_
  simp only [↓stU, stD, reduceEqDiff, ↓reduceIte]
  exact s1.trans s2
theorem rkV_self (r : Int × Int × Int) : sameV (rkV r) (rkV r) = true := by
  simp [rkV, sameV, sameVs, keq_refl, bsel_true, ieq_eq]
theorem evA_two {t : Nat} {z : AV} {x y : Opd} {F : Fr} {id : Nat} {n m : Int} (hx : x.val F = .int .i64 n) (hy : y.val F = .int .i64 m) : evA (.bslice t 1 2 [z] [(0, x), (1, y)]) F id = some (.sl id 0 2 2 false, .cells (cells64 [n, m]) false 0) := by
  show (osel (fillP (repeatL [z] 2) [(0 * 1, 1, x.val F), (1 * 1, 1, y.val F)]) fun cs => some (AV.sl id 0 2 2 false, AB.cells cs false 0)) = _
  rw [hx, hy]
  rfl
/-- the sign by which ranks are sorted -/
def rkC (r s : Int × Int × Int) : Int := if cmpZ s.2.1 r.2.1 ≠ 0 then cmpZ s.2.1 r.2.1 else cmpZ r.1 s.1
theorem cmpRank_spec {S : St} {r s : Int × Int × Int} (H : Has fns) : wpf fns (.fn 14 [] []) [rkV r, rkV s] S fun v S' => v = .int .i64 (rkC r s) ∧ Same S S' := by
  refine wpf_fn H.f14 (by simp) ?_
  simp only [↓stU, stD, reduceEqDiff, ↓reduceIte, reduceAdd]
  refine wsr ?_
  refine wpo_box (cs := [.int .i64 r.1, .int .i64 r.2.1, .int .i64 r.2.2]) rfl ?_
  intro S1 s1 n1 c1
  refine wpo_box (cs := [.int .i64 s.1, .int .i64 s.2.1, .int .i64 s.2.2]) (by simp only [↓stU, stD, reduceEqDiff, ↓reduceIte]; rfl) ?_
  intro S2 s2 n2 c2
  have c1' := (s2.2 _ (show S.nx < S1.nx by omega)).trans c1
  have l1 : qLdV (.ptr S.nx 0) true 3 S2.h = some (rkV r) := lg3_a c1'
  have l2 : qLdV (.ptr S1.nx 0) true 3 S2.h = some (rkV s) := lg3_a c2
  have lt1 : S.nx < S2.nx := by omega
  have lt2 : S1.nx < S2.nx := by omega
  simp only [↓stU, stD, reduceEqDiff, ↓reduceIte]
  refine wpc_seq (wpc_drd2 (fun _ => False) ?_)
  intro X1 x1 hX1 nX1
  simp only [↓sU, sD, reduceEqDiff, ↓reduceIte, reduceAdd, l1, l2, rkV_self, lt1, lt2, not_false_eq_true]
  refine runD_call0 rfl ?_
  simp only [↓sU, sD, reduceEqDiff, ↓reduceIte, reduceAdd]
  refine wpf_mono (byPoints_spec H) ?_
  rintro _ Y ⟨rfl, hY⟩
  refine ⟨hY, ?_⟩
  simp only [↓sU, sD, reduceEqDiff, ↓reduceIte, reduceAdd, l1, l2, rkV_self, lt1, lt2, not_false_eq_true]
  refine runD_call0 rfl ?_
  simp only [↓sU, sD, reduceEqDiff, ↓reduceIte, reduceAdd]
  refine wpf_mono (byNumber_spec H) ?_
  rintro _ Z ⟨rfl, hZ⟩
  refine ⟨hZ, ?_⟩
  have hSZ := x1.trans (hY.trans hZ)
  have hb : S2.nx + 6 < Z.nx := by
    have := hY.1
    have := hZ.1
    simp only [List.length_cons, List.length_nil] at nX1
    omega
  try simp only [↓sU, sD, reduceEqDiff, ↓reduceIte, reduceAdd]
  rw [evA_two (n := cmpZ s.2.1 r.2.1) (m := cmpZ r.1 s.1) (by simp only [↓sU, sD, reduceEqDiff, ↓reduceIte, reduceAdd]) (by simp only [↓sU, sD, reduceEqDiff, ↓reduceIte, reduceAdd]), contA_some]
  simp only [↓sU, sD, reduceEqDiff, ↓reduceIte, reduceAdd]
  refine runD_call rfl ?_
  rw [flush_one (by rfl)]
  simp only [↓sU, sD, reduceEqDiff, ↓reduceIte, reduceAdd]
  refine wpf_mono (or_spec H (row_sl (b := S2.nx + 6) (N := 2) (l := [cmpZ s.2.1 r.2.1, cmpZ r.1 s.1]) (o := false) (sz := 0) (by simp only; rw [T.get_set, if_pos rfl]) hb rfl)) ?_
  rintro _ W ⟨rfl, rfl⟩
  refine ⟨Same.refl _, ?_⟩
  try simp only [↓sU, sD, reduceEqDiff, ↓reduceIte, reduceAdd]
  refine wpc_ret ?_
  try simp only [↓sU, sD, reduceEqDiff, ↓reduceIte, reduceAdd]
  refine ⟨rfl, s1.trans (s2.trans ⟨by show S2.nx ≤ Z.nx; omega, fun c hc => ?_⟩)⟩
  simp only
  rw [T.get_set, if_neg (by omega)]
  exact hSZ.2 c hc
end Go.Ev.Gl

namespace Go.Ev.Gl
open Go.Sort
variable {fns : T AFn}

/-! ## Ranks in order (plain) -/
def rkLt (r s : Int × Int × Int) : Prop := s.2.1 < r.2.1 ∨ r.2.1 = s.2.1 ∧ r.1 < s.1
instance rkLtDec (r s : Int × Int × Int) : Decidable (rkLt r s) := by unfold rkLt; exact inferInstance
theorem cmpZ_neg (a b : Int) : cmpZ a b < 0 ↔ a < b := by
  unfold cmpZ
  split
  · omega
  · split <;> omega
theorem cmpZ_zero (a b : Int) : cmpZ a b = 0 ↔ a = b := by
  unfold cmpZ
  split
  · omega
  · split <;> omega
theorem rkC_neg (r s : Int × Int × Int) : rkC r s < 0 ↔ rkLt r s := by
  unfold rkC rkLt
  have h1 := cmpZ_neg s.2.1 r.2.1
  have h2 := cmpZ_neg r.1 s.1
  have h3 := cmpZ_zero s.2.1 r.2.1
  split
  · rename_i h
    rw [h1]
    constructor
    · exact .inl
    · rintro (h4 | h4)
      · exact h4
      · exact absurd (h3.2 h4.1.symm) h
  · rename_i h
    have h : cmpZ s.2.1 r.2.1 = 0 := by omega
    rw [h2]
    have := h3.1 h
    constructor
    · exact fun h5 => .inr ⟨this.symm, h5⟩
    · rintro (h4 | h4)
      · omega
      · exact h4.2
def rkOf (x : AV) : Int × Int × Int :=
  match x with
  | .agg [.int _ a, .int _ b, .int _ c] => (a, b, c)
  | _ => (0, 0, 0)
theorem rkOf_rkV (r : Int × Int × Int) : rkOf (rkV r) = r := rfl
def ltR (x y : AV) : Bool := decide (rkLt (rkOf x) (rkOf y))
theorem rkLt_asymm {r s : Int × Int × Int} (h : rkLt r s) : ¬ rkLt s r := by
  unfold rkLt at h ⊢
  omega
theorem rkLt_trans {r s t : Int × Int × Int} (h1 : rkLt r s) (h2 : rkLt s t) : rkLt r t := by
  unfold rkLt at h1 h2 ⊢
  omega
theorem rkLt_ntrans {r s t : Int × Int × Int} (h1 : ¬ rkLt r s) (h2 : ¬ rkLt s t) : ¬ rkLt r t := by
  unfold rkLt at h1 h2 ⊢
  omega
theorem swo_ltR : SWO ltR where
  irrefl x := decide_eq_false fun h => rkLt_asymm h h
  trans x y z h1 h2 := decide_eq_true (rkLt_trans (of_decide_eq_true h1) (of_decide_eq_true h2))
  ntrans x y z h1 h2 := decide_eq_false (rkLt_ntrans (of_decide_eq_false h1) (of_decide_eq_false h2))
theorem rk_unique {n : Nat} {f : Nat → Int × Int × Int} (hf : ∀ i, (f i).1 = (i : Int)) {d e : Array AV} (hd : d.toList = (List.range n).map fun i => rkV (f i)) (hp : PermIn 0 n d e) (hs : SortedIn ltR 0 n e) {R : List (Int × Int × Int)} (hR : R.Perm ((List.range n).map f)) (hR2 : R.Pairwise rkLt) : e.toList = R.map rkV := by
  have hdn : d.size = n := by
    have := congrArg List.length hd
    simpa using this
  have hen : e.size = n := by rw [hp.1, hdn]
  have pm : e.toList.Perm d.toList := by
    have := hp.2.2
    rwa [show d.extract 0 n = d by rw [← hdn, Array.extract_size], show e.extract 0 n = e by rw [← hen, Array.extract_size]] at this
  refine List.Perm.eq_of_pairwise (le := fun x y => ltR y x = false) ?_ ?_ ?_ (pm.trans ?_)
  · intro a b ha hb h1 h2
    have ha := pm.mem_iff.1 ha
    rw [hd] at ha
    obtain ⟨i, _, rfl⟩ := List.mem_map.1 ha
    obtain ⟨r, hr, rfl⟩ := List.mem_map.1 hb
    obtain ⟨j, _, rfl⟩ := List.mem_map.1 (hR.mem_iff.1 hr)
    simp only [ltR, rkOf_rkV, decide_eq_false_iff_not, rkLt, hf] at h1 h2
    rw [show i = j by omega]
  · rw [List.pairwise_iff_getElem]
    intro i j hi hj hij
    have hi' : i < e.size := by simpa using hi
    have hj' : j < e.size := by simpa using hj
    have := hs i j (Nat.zero_le _) hij (by omega)
    rw [getElem!_pos e j hj', getElem!_pos e i hi'] at this
    simpa using this
  · rw [List.pairwise_map]
    refine hR2.imp ?_
    intro a b h
    exact decide_eq_false (rkLt_asymm h)
  · rw [hd]
    have := (hR.map rkV).symm
    rwa [List.map_map] at this
theorem ins_rk {L : List (Int × Int × Int)} {x : Int × Int × Int} {p : Nat} (hp : p ≤ L.length) (h1 : ∀ j r, p ≤ j → L[j]? = some r → r.2.1 < x.2.1) (h2 : 0 < p → ∀ r, L[p - 1]? = some r → x.2.1 ≤ r.2.1) (hL : L.Pairwise rkLt) (hw : ∀ r ∈ L, r.1 < x.1) : (L.take p ++ x :: L.drop p).Pairwise rkLt := by
  have hL' := hL
  rw [← List.take_append_drop p L, List.pairwise_append] at hL'
  obtain ⟨a1, a2, a3⟩ := hL'
  have hx : ∀ r ∈ L.drop p, rkLt x r := fun r hr => by
    obtain ⟨j, hj⟩ := List.getElem?_of_mem hr
    rw [List.getElem?_drop] at hj
    exact .inl (h1 _ _ (by omega) hj)
  have hb : ∀ r ∈ L.take p, rkLt r x := fun r hr => by
    obtain ⟨i, hi⟩ := List.getElem?_of_mem hr
    rw [List.getElem?_take] at hi
    split at hi
    · rename_i hip
      have hlt : p - 1 < L.length := by omega
      have hq := h2 (by omega) L[p - 1] (List.getElem?_eq_getElem hlt)
      have hw := hw r (List.mem_of_getElem? hi)
      by_cases e : i = p - 1
      · subst e
        rw [List.getElem?_eq_getElem hlt] at hi
        cases hi
        unfold rkLt
        omega
      · obtain ⟨hil, he⟩ := List.getElem?_eq_some_iff.1 hi
        have := List.pairwise_iff_getElem.1 hL i (p - 1) hil hlt (by omega)
        rw [he] at this
        unfold rkLt at *
        omega
    · cases hi
  rw [List.pairwise_append]
  refine ⟨a1, List.pairwise_cons.2 ⟨hx, a2⟩, fun a ha b hb' => ?_⟩
  rcases List.mem_cons.1 hb' with rfl | hb'
  · exact hb a ha
  · exact a3 a ha b hb'
theorem ins_perm {α : Type} {L : List α} {x : α} {p : Nat} : (L.take p ++ x :: L.drop p).Perm (L ++ [x]) := by
  refine List.perm_middle.trans ?_
  rw [List.take_append_drop]
  exact (List.perm_append_singleton x L).symm

/-! ## The rows (plain) -/
def badSt (rows : List (List Int)) (i j : Nat) : Prop := (rows.getD i []).getD j 0 < -2000000000 ∨ 2000000000 < (rows.getD i []).getD j 0 ∨ i = j ∧ (rows.getD i []).getD j 0 ≠ 0
open Classical in
noncomputable def stE (rows : List (List Int)) (s : Int) : Int := if 20 < rows.length then 4 else if ∃ i, i < rows.length ∧ (rows.getD i []).length ≠ rows.length then 10 else if s < 0 ∨ 1000 < s then 2 else if ∃ i j, i < rows.length ∧ j < rows.length ∧ badSt rows i j then 2 else 0
def rkAt (rows : List (List Int)) (s : Int) (i : Nat) : Int × Int × Int := ((i : Int), (rows.getD i []).sum, s * ((rows.length : Int) - 1))
theorem sumS_take (l : List Int) {j : Nat} (h : j < l.length) : (l.take (j + 1)).sum = (l.take j).sum + l.getD j 0 := by
  rw [List.take_add_one, List.sum_append, List.getD_eq_getElem?_getD, List.getElem?_eq_getElem h]
  simp
theorem sum_bound (l : List Int) (j : Nat) (h : ∀ i, i < j → -2000000000 ≤ l.getD i 0 ∧ l.getD i 0 ≤ 2000000000) : -(2000000000 * (j : Int)) ≤ (l.take j).sum ∧ (l.take j).sum ≤ 2000000000 * (j : Int) := by
  induction j with
  | zero => simp
  | succ j ih =>
    have ih := ih fun i hi => h i (by omega)
    by_cases hj : j < l.length
    · rw [sumS_take l hj]
      have := h j (by omega)
      omega
    · rw [List.take_of_length_le (by omega)]
      rw [List.take_of_length_le (by omega)] at ih
      omega
end Go.Ev.Gl

namespace Go.Ev.Gl
open Go.Sort
variable {fns : T AFn}

/-! ## The rows are checked -/
def Sq (rows : List (List Int)) : Prop := ∀ i, i < rows.length → (rows.getD i []).length = rows.length
theorem stE_4 {rows : List (List Int)} {s : Int} (h : 20 < rows.length) : stE rows s = 4 := by unfold stE; rw [if_pos h]
theorem stE_10 {rows : List (List Int)} {s : Int} (h : ¬ 20 < rows.length) {i : Nat} (hi : i < rows.length) (h2 : (rows.getD i []).length ≠ rows.length) : stE rows s = 10 := by unfold stE; rw [if_neg h, if_pos ⟨i, hi, h2⟩]
theorem stE_2 {rows : List (List Int)} {s : Int} (h : ¬ 20 < rows.length) (hq : Sq rows) (h2 : s < 0 ∨ 1000 < s) : stE rows s = 2 := by
  unfold stE
  rw [if_neg h, if_neg, if_pos h2]
  rintro ⟨i, hi, h3⟩
  exact h3 (hq i hi)
theorem stE_3 {rows : List (List Int)} {s : Int} (h : ¬ 20 < rows.length) (hq : Sq rows) (h2 : ¬ (s < 0 ∨ 1000 < s)) {i j : Nat} (hi : i < rows.length) (hj : j < rows.length) (hb : badSt rows i j) : stE rows s = 2 := by
  unfold stE
  rw [if_neg h, if_neg, if_neg h2, if_pos ⟨i, j, hi, hj, hb⟩]
  rintro ⟨i, hi, h3⟩
  exact h3 (hq i hi)
theorem stE_0 {rows : List (List Int)} {s : Int} (h : ¬ 20 < rows.length) (hq : Sq rows) (h2 : ¬ (s < 0 ∨ 1000 < s)) (hg : ∀ i j, i < rows.length → j < rows.length → ¬ badSt rows i j) : stE rows s = 0 := by
  unfold stE
  rw [if_neg h, if_neg, if_neg h2, if_neg]
  · rintro ⟨i, j, hi, hj, hb⟩
    exact hg i j hi hj hb
  · rintro ⟨i, hi, h3⟩
    exact h3 (hq i hi)
theorem rowS_at {S : St} {v : AV} {rows : List (List Int)} (h : IsSlG 1 SlE S v rows) {i : Nat} (hi : i < rows.length) : ∃ a b p, iaddrV (.slice 1) v i = some (.ptr b p) ∧ b < S.nx ∧ qLdV (.ptr b p) false 1 S.h = some a ∧ IsSl .i64 S a (rows.getD i []) := by
  obtain ⟨e, b, p, ia, lb, _, ⟨a, rfl, h1⟩, _, hf⟩ := IsSlG.at h (by decide) (List.getElem?_eq_getElem hi)
  have la := hf 0 a rfl
  rw [Nat.add_zero] at la
  refine ⟨a, b, p, ia, lb, la, ?_⟩
  rwa [List.getD_eq_getElem?_getD, List.getElem?_eq_getElem hi]
set_option maxHeartbeats 4000000 in
theorem checked_spec {S : St} {v : AV} {rows : List (List Int)} {s : Int} (H : Has fns) (h : IsSlG 1 SlE S v rows) : wpf fns (.fn 12 [] []) [v, .int .i64 s] S fun r S' => r = .int .i64 (stE rows s) ∧ S' = S := by
  refine wpf_fn H.f12 (by simp) ?_
  simp only [↓stU, stD, reduceEqDiff, ↓reduceIte, reduceAdd]
  refine wsr ?_
  simp only [↓stU, stD, reduceEqDiff, ↓reduceIte, reduceAdd]
  refine wss ?_
  simp only [↓stU, stD, reduceEqDiff, ↓reduceIte, h.len]
  by_cases h20 : 20 < rows.length
  · refine wpc_yes (by simp only [↓stU, stD, reduceEqDiff, ↓reduceIte, decide_eq_true (show (20 : Int) < (rows.length : Int) by omega)]) (wpc_seq (wpc_reg ?_))
    simp only [↓stU, stD, reduceEqDiff, ↓reduceIte]
    refine wpc_ret ?_
    simp only [↓stU, stD, reduceEqDiff, ↓reduceIte, stE_4 h20]
  refine wpc_non (by simp only [↓stU, stD, reduceEqDiff, ↓reduceIte, decide_eq_false (show ¬ (20 : Int) < (rows.length : Int) by omega)]) (wpc_skip ?_)
  try simp only [↓stU, stD, reduceEqDiff, ↓reduceIte]
  refine wpc_seq (wpc_mono (Q := fun o A' X => X = S ∧ (o = .ret ∧ tmpV 4 A'.F = .int .i64 (stE rows s) ∨ o = .normal ∧ A'.inr = false ∧ Sq rows ∧ tmpV 0 A'.F = v ∧ tmpV 1 A'.F = .int .i64 s)) (wpc_seq (wpc_reg ?_)) ?_)
  · simp only [↓stU, stD, reduceEqDiff, ↓reduceIte, h.len]
    refine wpc_block (wpc_loop (fun k A' X => A'.inr = false ∧ X = S ∧ ∃ i : Nat, i + k = rows.length ∧ (∀ j, j < i → (rows.getD j []).length = rows.length) ∧ tmpV 0 A'.F = v ∧ tmpV 1 A'.F = .int .i64 s ∧ tmpV 14 A'.F = v ∧ tmpV 15 A'.F = .int .i64 (rows.length : Int) ∧ tmpV 16 A'.F = .int .i64 (i : Int)) ?_ rows.length _ _ ⟨rfl, rfl, 0, by omega, fun j hj => by omega, by simp only [↓stU, stD, reduceEqDiff, ↓reduceIte], by simp only [↓stU, stD, reduceEqDiff, ↓reduceIte], by simp only [↓stU, stD, reduceEqDiff, ↓reduceIte], by simp only [↓stU, stD, reduceEqDiff, ↓reduceIte], by simp only [↓stU, stD, reduceEqDiff, ↓reduceIte]⟩)
    rintro k ⟨F, inr⟩ X ⟨q0, rfl, i, hik, hq, p0, p1, p14, p15, p16⟩
    simp only at q0 p0 p1 p14 p15 p16
    subst q0
    refine wsr ?_
    simp only [↓stU, stD, reduceEqDiff, ↓reduceIte, p15, p16, dlt]
    by_cases hi : i < rows.length
    · refine wpc_seq (wpc_yes (by simp only [↓stU, stD, reduceEqDiff, ↓reduceIte, decide_eq_true hi]) (wpc_skip ?_))
      try simp only [↓stU, stD, reduceEqDiff, ↓reduceIte]
      obtain ⟨a, b, p, ia, lb, la, hr⟩ := rowS_at h hi
      have sa := IsSl.self hr
      refine wpc_seq (wpc_block (wpc_seq (wpc_reg ?_)))
      simp only [↓stU, stD, reduceEqDiff, ↓reduceIte, p14, p16, natOf_cast, ia, la]
      refine wsr ?_
      simp only [↓stU, stD, reduceEqDiff, ↓reduceIte, p0, hr.len, h.len]
      by_cases hl : (rows.getD i []).length = rows.length
      · refine wpc_non (by simp only [↓stU, stD, reduceEqDiff, ↓reduceIte, decide_eq_false (show ¬ ((rows.getD i []).length : Int) ≠ (rows.length : Int) by omega)]) (wpc_skip ?_)
        try simp only [↓stU, stD, reduceEqDiff, ↓reduceIte]
        refine wpc_reg ?_
        simp only [↓stU, stD, reduceEqDiff, ↓reduceIte, p16, wadd1 (a := i) (by omega)]
        refine ⟨k - 1, by omega, i + 1, by omega, fun j hj => ?_, p0, p1, p14, p15, rfl⟩
        by_cases e : j = i
        · rw [e]; exact hl
        · exact hq j (by omega)
      · refine wpc_yes (by simp only [↓stU, stD, reduceEqDiff, ↓reduceIte, decide_eq_true (show ((rows.getD i []).length : Int) ≠ (rows.length : Int) by omega)]) (wpc_seq (wpc_reg ?_))
        simp only [↓stU, stD, reduceEqDiff, ↓reduceIte]
        refine wpc_ret ?_
        simp only [↓stU, stD, reduceEqDiff, ↓reduceIte]
        exact .inl (by rw [stE_10 h20 hi hl])
    · refine wpc_seq (wpc_non (by simp only [↓stU, stD, reduceEqDiff, ↓reduceIte, decide_eq_false hi]) (wpc_exit ?_))
      exact ⟨rfl, .inr ⟨rfl, rfl, fun j hj => hq j (by omega), by simp only [↓stU, stD, reduceEqDiff, ↓reduceIte, p0], by simp only [↓stU, stD, reduceEqDiff, ↓reduceIte, p1]⟩⟩
  rintro o ⟨F, inr⟩ X ⟨rfl, ⟨rfl, p4⟩ | ⟨rfl, q0, hq, p0, p1⟩⟩
  · simp only at p4
    simp only [↓stU, stD, reduceEqDiff, ↓reduceIte, p4]
  simp only at q0 p0 p1
  subst q0
  try simp only [↓stU, stD, reduceEqDiff, ↓reduceIte]
  refine wpc_seq (wpc_mono (Q := fun o A' Y => Y = X ∧ (o = .ret ∧ tmpV 4 A'.F = .int .i64 (stE rows s) ∨ o = .normal ∧ A'.inr = false ∧ ¬ (s < 0 ∨ 1000 < s) ∧ tmpV 0 A'.F = v)) (wpc_seq (wpc_reg ?_)) ?_)
  · by_cases h1 : s < 0
    · simp only [↓stU, stD, reduceEqDiff, ↓reduceIte, p1, decide_eq_true h1]
      refine wpc_yes (by simp only [↓stU, stD, reduceEqDiff, ↓reduceIte]) (wpc_seq (wpc_reg ?_))
      simp only [↓stU, stD, reduceEqDiff, ↓reduceIte]
      refine wpc_ret ?_
      simp only [↓stU, stD, reduceEqDiff, ↓reduceIte]
      exact .inl (by rw [stE_2 h20 hq (.inl h1)])
    · by_cases h2 : 1000 < s
      · simp only [↓stU, stD, reduceEqDiff, ↓reduceIte, p1, decide_eq_false h1, decide_eq_true h2]
        refine wpc_yes (by simp only [↓stU, stD, reduceEqDiff, ↓reduceIte]) (wpc_seq (wpc_reg ?_))
        simp only [↓stU, stD, reduceEqDiff, ↓reduceIte]
        refine wpc_ret ?_
        simp only [↓stU, stD, reduceEqDiff, ↓reduceIte]
        exact .inl (by rw [stE_2 h20 hq (.inr h2)])
      · simp only [↓stU, stD, reduceEqDiff, ↓reduceIte, p1, decide_eq_false h1, decide_eq_false h2]
        refine wpc_non (by simp only [↓stU, stD, reduceEqDiff, ↓reduceIte]) (wpc_skip ?_)
        exact ⟨rfl, .inr ⟨rfl, rfl, by omega, by simp only [↓stU, stD, reduceEqDiff, ↓reduceIte, p0]⟩⟩
  clear p0 p1
  rintro o ⟨F, inr⟩ Y ⟨rfl, ⟨rfl, p4⟩ | ⟨rfl, q0, hs, p0⟩⟩
  · simp only at p4
    simp only [↓stU, stD, reduceEqDiff, ↓reduceIte, p4]
  simp only at q0 p0
  subst q0
  try simp only [↓stU, stD, reduceEqDiff, ↓reduceIte]
  refine wpc_seq (wpc_mono (Q := fun o A' X => X = Y ∧ (o = .ret ∧ tmpV 4 A'.F = .int .i64 (stE rows s) ∨ o = .normal ∧ ∀ i j, i < rows.length → j < rows.length → ¬ badSt rows i j)) (wpc_seq (wpc_reg ?_)) ?_)
  · simp only [↓stU, stD, reduceEqDiff, ↓reduceIte, p0, h.len]
    refine wpc_block (wpc_loop (fun k A' X => A'.inr = false ∧ X = Y ∧ ∃ i : Nat, i + k = rows.length ∧ (∀ i' j, i' < i → j < rows.length → ¬ badSt rows i' j) ∧ tmpV 32 A'.F = v ∧ tmpV 33 A'.F = .int .i64 (rows.length : Int) ∧ tmpV 34 A'.F = .int .i64 (i : Int)) ?_ rows.length _ _ ⟨rfl, rfl, 0, by omega, fun i' j hj => by omega, by simp only [↓stU, stD, reduceEqDiff, ↓reduceIte], by simp only [↓stU, stD, reduceEqDiff, ↓reduceIte], by simp only [↓stU, stD, reduceEqDiff, ↓reduceIte]⟩)
    clear p0
    rintro k ⟨F, inr⟩ X ⟨q0, rfl, i, hik, hg, p32, p33, p34⟩
    simp only at q0 p32 p33 p34
    subst q0
    refine wsr ?_
    simp only [↓stU, stD, reduceEqDiff, ↓reduceIte, p33, p34, dlt]
    by_cases hi : i < rows.length
    rotate_left
    · refine wpc_seq (wpc_non (by simp only [↓stU, stD, reduceEqDiff, ↓reduceIte, decide_eq_false hi]) (wpc_exit ?_))
      exact ⟨rfl, .inr ⟨rfl, fun i' j h1 h2 => hg i' j (by omega) h2⟩⟩
    refine wpc_seq (wpc_yes (by simp only [↓stU, stD, reduceEqDiff, ↓reduceIte, decide_eq_true hi]) (wpc_skip ?_))
    try simp only [↓stU, stD, reduceEqDiff, ↓reduceIte]
    obtain ⟨a, b, p, ia, lb, la, hr⟩ := rowS_at h hi
    have sa := IsSl.self hr
    have hrl := hq i hi
    have rlen := hr.len
    rw [hrl] at rlen
    refine wpc_seq (wpc_mono (Q := fun o A' Z => Z = X ∧ (o = .ret ∧ tmpV 4 A'.F = .int .i64 (stE rows s) ∨ o = .normal ∧ A'.inr = false ∧ (∀ j, j < rows.length → ¬ badSt rows i j) ∧ tmpV 32 A'.F = v ∧ tmpV 33 A'.F = .int .i64 (rows.length : Int) ∧ tmpV 34 A'.F = .int .i64 (i : Int))) (wpc_block (wpc_seq (wpc_reg ?_))) ?_)
    · simp only [↓stU, stD, reduceEqDiff, ↓reduceIte, p32, p34, natOf_cast, ia, la]
      refine wsr ?_
      simp only [↓stU, stD, reduceEqDiff, ↓reduceIte, rlen]
      refine wpc_block (wpc_loop (fun k A' Z => A'.inr = false ∧ Z = X ∧ ∃ j : Nat, j + k = rows.length ∧ (∀ j', j' < j → ¬ badSt rows i j') ∧ tmpV 7 A'.F = .int .i64 (i : Int) ∧ tmpV 32 A'.F = v ∧ tmpV 33 A'.F = .int .i64 (rows.length : Int) ∧ tmpV 34 A'.F = .int .i64 (i : Int) ∧ tmpV 39 A'.F = a ∧ tmpV 40 A'.F = .int .i64 (rows.length : Int) ∧ tmpV 41 A'.F = .int .i64 (j : Int)) ?_ rows.length _ _ ⟨rfl, rfl, 0, by omega, fun j hj => by omega, by simp only [↓stU, stD, reduceEqDiff, ↓reduceIte], by simp only [↓stU, stD, reduceEqDiff, ↓reduceIte, p32], by simp only [↓stU, stD, reduceEqDiff, ↓reduceIte, p33], by simp only [↓stU, stD, reduceEqDiff, ↓reduceIte, p34], by simp only [↓stU, stD, reduceEqDiff, ↓reduceIte], by simp only [↓stU, stD, reduceEqDiff, ↓reduceIte], by simp only [↓stU, stD, reduceEqDiff, ↓reduceIte]⟩)
      clear p32 p33 p34
      rintro m ⟨F, inr⟩ Z ⟨q0, rfl, j, hjm, hgj, p7, p32, p33, p34, p39, p40, p41⟩
      simp only at q0 p7 p32 p33 p34 p39 p40 p41
      subst q0
      refine wsr ?_
      simp only [↓stU, stD, reduceEqDiff, ↓reduceIte, p40, p41, dlt]
      by_cases hj : j < rows.length
      rotate_left
      · refine wpc_seq (wpc_non (by simp only [↓stU, stD, reduceEqDiff, ↓reduceIte, decide_eq_false hj]) (wpc_exit ?_))
        exact ⟨rfl, .inr ⟨rfl, rfl, fun j' h1 => hgj j' (by omega), by simp only [↓stU, stD, reduceEqDiff, ↓reduceIte, p32], by simp only [↓stU, stD, reduceEqDiff, ↓reduceIte, p33], by simp only [↓stU, stD, reduceEqDiff, ↓reduceIte, p34]⟩⟩
      refine wpc_seq (wpc_yes (by simp only [↓stU, stD, reduceEqDiff, ↓reduceIte, decide_eq_true hj]) (wpc_skip ?_))
      try simp only [↓stU, stD, reduceEqDiff, ↓reduceIte]
      have hjr : j < (rows.getD i []).length := by omega
      have ja := hr.iaddr hjr
      have jl := hr.ld hjr
      obtain ⟨w, hw⟩ : ∃ w, w = (rows.getD i []).getD j 0 := ⟨_, rfl⟩
      rw [← hw] at jl
      have bad : badSt rows i j ↔ w < -2000000000 ∨ 2000000000 < w ∨ i = j ∧ w ≠ 0 := by unfold badSt; rw [← hw]
      refine wpc_seq (wpc_mono (Q := fun o A' Y => Y = Z ∧ (o = .ret ∧ badSt rows i j ∧ tmpV 4 A'.F = .int .i64 2 ∨ o = .normal ∧ A'.inr = false ∧ ¬ badSt rows i j ∧ tmpV 7 A'.F = .int .i64 (i : Int) ∧ tmpV 32 A'.F = v ∧ tmpV 33 A'.F = .int .i64 (rows.length : Int) ∧ tmpV 34 A'.F = .int .i64 (i : Int) ∧ tmpV 39 A'.F = a ∧ tmpV 40 A'.F = .int .i64 (rows.length : Int) ∧ tmpV 41 A'.F = .int .i64 (j : Int))) (wpc_block (wpc_seq (wpc_reg ?_))) ?_)
      · simp only [↓stU, stD, reduceEqDiff, ↓reduceIte, p39, p41, natOf_cast, ja, jl]
        have fin : ∀ (F' : Fr) (t : Bool), (t = true ↔ badSt rows i j) → tmpV 60 F' = .bool t → tmpV 7 F' = .int .i64 (i : Int) → tmpV 32 F' = v → tmpV 33 F' = .int .i64 (rows.length : Int) → tmpV 34 F' = .int .i64 (i : Int) → tmpV 39 F' = a → tmpV 40 F' = .int .i64 (rows.length : Int) → tmpV 41 F' = .int .i64 (j : Int) → ∀ Q : Out → Act' → St → Prop, (∀ A', badSt rows i j → tmpV 4 A'.F = .int .i64 2 → Q .ret A' Z) → (¬ badSt rows i j → Q .normal ⟨F', false⟩ Z) → wpc fns (.cond (.t 60) (.seq (.reg [⟨some 4, .q (.mv (.c (.int .i64 (.ofNat 2)))), none, 0⟩]) .ret) .skip) ⟨F', false⟩ Z Q := by
          intro F' t ht t60 t7 t32 t33 t34 t39 t40 t41 Q h1 h2
          cases t with
          | true =>
            refine wpc_yes t60 (wpc_seq (wpc_reg ?_))
            simp only [↓stU, stD, reduceEqDiff, ↓reduceIte]
            refine wpc_ret ?_
            exact h1 _ (ht.1 rfl) (by simp only [↓stU, stD, reduceEqDiff, ↓reduceIte])
          | false => exact wpc_non t60 (wpc_skip (h2 (fun hb => by cases ht.2 hb)))
        by_cases c1 : w < -2000000000
        · refine wsr ?_
          simp only [↓stU, stD, reduceEqDiff, ↓reduceIte, p7, show (Int.negSucc 1999999999 : Int) = -2000000000 from rfl, decide_eq_true c1]
          refine fin _ true (by rw [bad]; exact ⟨fun _ => .inl c1, fun _ => rfl⟩) (by simp only [↓stU, stD, reduceEqDiff, ↓reduceIte]) (by simp only [↓stU, stD, reduceEqDiff, ↓reduceIte, p7]) (by simp only [↓stU, stD, reduceEqDiff, ↓reduceIte, p32]) (by simp only [↓stU, stD, reduceEqDiff, ↓reduceIte, p33]) (by simp only [↓stU, stD, reduceEqDiff, ↓reduceIte, p34]) (by simp only [↓stU, stD, reduceEqDiff, ↓reduceIte, p39]) (by simp only [↓stU, stD, reduceEqDiff, ↓reduceIte, p40]) (by simp only [↓stU, stD, reduceEqDiff, ↓reduceIte, p41]) _ (fun A' hb h4 => ⟨rfl, .inl ⟨rfl, hb, h4⟩⟩) (fun hb => absurd (bad.2 (.inl c1)) hb)
        by_cases c2 : 2000000000 < w
        · refine wsr ?_
          simp only [↓stU, stD, reduceEqDiff, ↓reduceIte, p7, show (Int.negSucc 1999999999 : Int) = -2000000000 from rfl, decide_eq_false c1, decide_eq_true c2]
          refine fin _ true (by rw [bad]; exact ⟨fun _ => .inr (.inl c2), fun _ => rfl⟩) (by simp only [↓stU, stD, reduceEqDiff, ↓reduceIte]) (by simp only [↓stU, stD, reduceEqDiff, ↓reduceIte, p7]) (by simp only [↓stU, stD, reduceEqDiff, ↓reduceIte, p32]) (by simp only [↓stU, stD, reduceEqDiff, ↓reduceIte, p33]) (by simp only [↓stU, stD, reduceEqDiff, ↓reduceIte, p34]) (by simp only [↓stU, stD, reduceEqDiff, ↓reduceIte, p39]) (by simp only [↓stU, stD, reduceEqDiff, ↓reduceIte, p40]) (by simp only [↓stU, stD, reduceEqDiff, ↓reduceIte, p41]) _ (fun A' hb h4 => ⟨rfl, .inl ⟨rfl, hb, h4⟩⟩) (fun hb => absurd (bad.2 (.inr (.inl c2))) hb)
        refine wsr ?_
        by_cases c3 : i = j
        · simp only [↓stU, stD, reduceEqDiff, ↓reduceIte, p7, show (Int.negSucc 1999999999 : Int) = -2000000000 from rfl, decide_eq_false c1, decide_eq_false c2, deq, decide_eq_true c3]
          refine fin _ (decide (w ≠ 0)) (by rw [bad, decide_eq_true_eq]; omega) (by simp only [↓stU, stD, reduceEqDiff, ↓reduceIte]) (by simp only [↓stU, stD, reduceEqDiff, ↓reduceIte, p7]) (by simp only [↓stU, stD, reduceEqDiff, ↓reduceIte, p32]) (by simp only [↓stU, stD, reduceEqDiff, ↓reduceIte, p33]) (by simp only [↓stU, stD, reduceEqDiff, ↓reduceIte, p34]) (by simp only [↓stU, stD, reduceEqDiff, ↓reduceIte, p39]) (by simp only [↓stU, stD, reduceEqDiff, ↓reduceIte, p40]) (by simp only [↓stU, stD, reduceEqDiff, ↓reduceIte, p41]) _ (fun A' hb h4 => ⟨rfl, .inl ⟨rfl, hb, h4⟩⟩) (fun hb => ⟨rfl, .inr ⟨rfl, rfl, hb, by simp only [↓stU, stD, reduceEqDiff, ↓reduceIte, p7], by simp only [↓stU, stD, reduceEqDiff, ↓reduceIte, p32], by simp only [↓stU, stD, reduceEqDiff, ↓reduceIte, p33], by simp only [↓stU, stD, reduceEqDiff, ↓reduceIte, p34], by simp only [↓stU, stD, reduceEqDiff, ↓reduceIte, p39], by simp only [↓stU, stD, reduceEqDiff, ↓reduceIte, p40], by simp only [↓stU, stD, reduceEqDiff, ↓reduceIte, p41]⟩⟩)
        · simp only [↓stU, stD, reduceEqDiff, ↓reduceIte, p7, show (Int.negSucc 1999999999 : Int) = -2000000000 from rfl, decide_eq_false c1, decide_eq_false c2, deq, decide_eq_false c3]
          refine fin _ false (by rw [bad]; simp only [Bool.false_eq_true, false_iff]; omega) (by simp only [↓stU, stD, reduceEqDiff, ↓reduceIte]) (by simp only [↓stU, stD, reduceEqDiff, ↓reduceIte, p7]) (by simp only [↓stU, stD, reduceEqDiff, ↓reduceIte, p32]) (by simp only [↓stU, stD, reduceEqDiff, ↓reduceIte, p33]) (by simp only [↓stU, stD, reduceEqDiff, ↓reduceIte, p34]) (by simp only [↓stU, stD, reduceEqDiff, ↓reduceIte, p39]) (by simp only [↓stU, stD, reduceEqDiff, ↓reduceIte, p40]) (by simp only [↓stU, stD, reduceEqDiff, ↓reduceIte, p41]) _ (fun A' hb h4 => ⟨rfl, .inl ⟨rfl, hb, h4⟩⟩) (fun hb => ⟨rfl, .inr ⟨rfl, rfl, hb, by simp only [↓stU, stD, reduceEqDiff, ↓reduceIte, p7], by simp only [↓stU, stD, reduceEqDiff, ↓reduceIte, p32], by simp only [↓stU, stD, reduceEqDiff, ↓reduceIte, p33], by simp only [↓stU, stD, reduceEqDiff, ↓reduceIte, p34], by simp only [↓stU, stD, reduceEqDiff, ↓reduceIte, p39], by simp only [↓stU, stD, reduceEqDiff, ↓reduceIte, p40], by simp only [↓stU, stD, reduceEqDiff, ↓reduceIte, p41]⟩⟩)
      clear p7 p32 p33 p34 p39 p40 p41
      rintro o ⟨F, inr⟩ Y ⟨rfl, ⟨rfl, hb, p4⟩ | ⟨rfl, q0, hb, p7, p32, p33, p34, p39, p40, p41⟩⟩
      · simp only at p4
        try simp only [↓stU, stD, reduceEqDiff, ↓reduceIte]
        exact .inl (by rw [p4, stE_3 h20 hq hs hi hj hb])
      simp only at q0 p7 p32 p33 p34 p39 p40 p41
      subst q0
      try simp only [↓stU, stD, reduceEqDiff, ↓reduceIte]
      refine wpc_reg ?_
      simp only [↓stU, stD, reduceEqDiff, ↓reduceIte, p41, wadd1 (a := j) (by omega)]
      refine ⟨m - 1, by omega, j + 1, by omega, fun j' hj' => ?_, p7, p32, p33, p34, p39, p40, rfl⟩
      by_cases e : j' = j
      · rw [e]; exact hb
      · exact hgj j' (by omega)
    clear p32 p33 p34
    rintro o ⟨F, inr⟩ Y ⟨rfl, ⟨rfl, p4⟩ | ⟨rfl, q0, hb, p32, p33, p34⟩⟩
    · simp only at p4
      try simp only [↓stU, stD, reduceEqDiff, ↓reduceIte]
      exact .inl p4
    simp only at q0 p32 p33 p34
    subst q0
    try simp only [↓stU, stD, reduceEqDiff, ↓reduceIte]
    refine wpc_reg ?_
    simp only [↓stU, stD, reduceEqDiff, ↓reduceIte, p34, wadd1 (a := i) (by omega)]
    refine ⟨k - 1, by omega, i + 1, by omega, fun i' j h1 h2 => ?_, p32, p33, rfl⟩
    by_cases e : i' = i
    · rw [e]; exact hb j h2
    · exact hg i' j (by omega) h2
  rintro o ⟨F, inr⟩ X ⟨rfl, ⟨rfl, p4⟩ | ⟨rfl, hg⟩⟩
  · simp only at p4
    simp only [↓stU, stD, reduceEqDiff, ↓reduceIte, p4]
  try simp only [↓stU, stD, reduceEqDiff, ↓reduceIte]
  refine wsr ?_
  simp only [↓stU, stD, reduceEqDiff, ↓reduceIte]
  refine wpc_ret ?_
  simp only [↓stU, stD, reduceEqDiff, ↓reduceIte, stE_0 h20 hq hs hg]
end Go.Ev.Gl

namespace Go.Ev.Gl
open Go.Sort
variable {fns : T AFn}

/-! ## The program's standing -/
def rkCs (r : Int × Int × Int) : List AV := [.int .i64 r.1, .int .i64 r.2.1, .int .i64 r.2.2]
def rks (rows : List (List Int)) (s : Int) : List (Int × Int × Int) := (List.range rows.length).map (rkAt rows s)
def RkE (_ : St) (cs : List AV) (r : Int × Int × Int) : Prop := cs = rkCs r
theorem firm_rk : Firm RkE := fun h _ => h
theorem rk_flat_len (L : List (Int × Int × Int)) : (L.flatMap rkCs).length = L.length * 3 := by
  induction L with
  | nil => rfl
  | cons r L ih => rw [List.flatMap_cons, List.length_append, ih, List.length_cons]; simp [rkCs]; omega
theorem rk_flat_get {L : List (Int × Int × Int)} {i : Nat} {r : Int × Int × Int} (h : L[i]? = some r) (j : Nat) (x : AV) (hx : (rkCs r)[j]? = some x) : (L.flatMap rkCs)[i * 3 + j]? = some x := by
  induction L generalizing i with
  | nil => simp at h
  | cons a L ih =>
    rw [List.flatMap_cons]
    cases i with
    | zero =>
      simp at h
      subst h
      have := (List.getElem?_eq_some_iff.1 hx).1
      rw [List.getElem?_append_left (by omega), Nat.zero_mul, Nat.zero_add]
      exact hx
    | succ i =>
      have e : (rkCs a).length = 3 := rfl
      rw [List.getElem?_append_right (by omega), e, show (i + 1) * 3 + j - 3 = i * 3 + j by omega]
      exact ih (by simpa using h)
theorem GrW.rk {S0 S : St} {v : AV} {L : List (Int × Int × Int)} (h : GrW 3 S0 S v L.length (L.flatMap rkCs)) : IsSlG 3 RkE S v L := by
  rcases h with ⟨rfl, h0, _⟩ | ⟨b, rfl, h1, h2, h3, h4⟩
  · exact .inl ⟨List.length_eq_zero_iff.1 h0, .inl rfl⟩
  · refine .inr ⟨b, 0, L.length, true, _, rfl, Nat.le_refl _, h2, by unfold cellsAt; rw [h3]; rfl, fun i r hi => ⟨rkCs r, rfl, fun j x hj => ?_, rfl⟩⟩
    rw [Nat.zero_add]
    exact rk_flat_get hi j x hj
theorem stE_zero {rows : List (List Int)} {s : Int} (h : stE rows s = 0) : rows.length ≤ 20 ∧ Sq rows ∧ 0 ≤ s ∧ s ≤ 1000 ∧ ∀ i j, i < rows.length → j < rows.length → ¬ badSt rows i j := by
  unfold stE at h
  split at h
  · omega
  split at h
  · omega
  split at h
  · omega
  split at h
  · omega
  rename_i h1 h2 h3 h4
  refine ⟨by omega, fun i hi => ?_, by omega, by omega, fun i j hi hj hb => h4 ⟨i, j, hi, hj, hb⟩⟩
  exact Classical.byContradiction fun h => h2 ⟨i, hi, h⟩
theorem evQ_b02 {z0 z1 z2 : AV} {x z : Opd} {F : Fr} {h : Ev.T AB} (h1 : (x.val F).cells = some [x.val F]) (h3 : (z.val F).cells = some [z.val F]) : evQ (.build [z0, z1, z2] [(0, 1, x), (2, 1, z)]) F h = some (.agg [x.val F, z1, z.val F]) := by
  show osel (fillP [z0, z1, z2] [(0, 1, x.val F), (2, 1, z.val F)]) (fun cs => some (AV.agg cs)) = _
  simp only [fillP, h1, h3, osel_some]
  rfl
theorem evA_r3 {t : Nat} {x : Opd} {F : Fr} {id : Nat} {r : Int × Int × Int} {z0 z1 z2 : AV} (hx : x.val F = rkV r) : evA (.bslice t 3 1 [z0, z1, z2] [(0, x)]) F id = some (.sl id 0 1 1 false, .cells (rkCs r) false 0) := by
  show (osel (fillP (repeatL [z0, z1, z2] 1) [(0 * 3, 3, x.val F)]) fun cs => some (AV.sl id 0 1 1 false, AB.cells cs false 0)) = _
  rw [hx]
  show (osel (osel (AV.cells (.agg (rkCs r))) _) _) = _
  rw [cells_agg, osel_some]
  rfl
theorem src_r3 {S : St} {t : Nat} {r : Int × Int × Int} {o : Bool} {sz : Nat} (h : S.h.get t = some (.cells (rkCs r) o sz)) : srcCells (.sl t 0 1 1 false) S.h 3 1 = some (rkCs r) := by
  show osel (cellsAt S.h t) (fun c => cut c 0 (1 * 3)) = _
  unfold cellsAt
  rw [h]
  rfl
theorem GrW.appR {k n m bytes : Nat} {S0 S : St} {v x : AV} {cs new : List AV} (h : GrW k S0 S v n cs) (hS : Same S0 S) (hl : lenOfV x = some m) (hs : srcCells x S.h k m = some new) (hn : new.length = m * k) (hm : 0 < m) (h1 : n + m ≤ room) (h2 : (n + m) * bytes ≤ room) :
    ∃ v' S', appendV bytes k v x S = some (v', S') ∧ GrW k S0 S' v' (n + m) (cs ++ new) ∧ Same S0 S' ∧ S.nx ≤ S'.nx ∧ (∀ c, c < S.nx → blkOf v ≠ some c → S'.h.get c = S.h.get c) ∧ blkOf v' = some S.nx := by
  rcases h with ⟨rfl, rfl, rfl⟩ | ⟨b, rfl, hb0, hb, hg, hc⟩
  · refine ⟨.sl S.nx 0 m m true, ⟨S.h.set S.nx (some (.cells new true k)), S.nx + 1⟩, ?_, .inr ⟨S.nx, by rw [Nat.zero_add], hS.1, by simp, ?_, by rw [Nat.zero_add]; exact hn⟩, hS.trans (Same.alloc S _), by simp, fun c hc _ => (Same.alloc S _).2 c hc, rfl⟩
    · show (osel (lenOfV x) fun j => osel (srcCells x S.h k j) fun new => appV .nilsl bytes k j new S) = _
      rw [hl, osel_some, hs, osel_some]
      show appNil bytes k m new S = _
      unfold appNil
      rw [show Nat.beq m 0 = false from Bool.eq_false_iff.2 fun e => by rw [Nat.beq_eq] at e; omega, bsel_false, Nat.ble_eq_true_of_le (by omega), bsel_true, Nat.ble_eq_true_of_le (by rw [Nat.zero_add] at h2; exact h2), bsel_true]
      rfl
    · simp only
      rw [T.get_set, if_pos rfl]
      rfl
  · refine ⟨.sl S.nx 0 (n + m) (n + m) true, ⟨(S.h.set b none).set S.nx (some (.cells (cs ++ new) true k)), S.nx + 1⟩, ?_, .inr ⟨S.nx, rfl, hS.1, by simp, ?_, by rw [List.length_append, hc, hn, Nat.add_mul]⟩, ⟨Nat.le_trans hS.1 (by simp), fun c hc => ?_⟩, by simp, fun c hc hne => ?_, rfl⟩
    · show (osel (lenOfV x) fun j => osel (srcCells x S.h k j) fun new => appV (.sl b 0 n n true) bytes k j new S) = _
      rw [hl, osel_some, hs, osel_some]
      show appSl bytes k b 0 n n true m new S = _
      unfold appSl
      have e2 : Nat.ble (n + m) n = false := by rw [Bool.eq_false_iff]; intro h; have := Nat.le_of_ble_eq_true h; omega
      rw [e2, bsel_false, Nat.ble_eq_true_of_le h1, bsel_true, Nat.ble_eq_true_of_le h2, bsel_true, hg, osel_some]
      have e3 : cut cs 0 (n * k) = some cs := by
        unfold cut
        rw [takeL_eq, dropL_eq, List.drop_zero, if_pos (by omega), List.take_of_length_le (by omega)]
      have e4 : Nat.beq (0 + n * k) (lenL cs) = true := by rw [lenL_eq, hc, Nat.beq_eq]; omega
      have e5 : Nat.beq k k = true := Nat.beq_refl k
      simp only [growB, e3, osel_some, bsel_true, e4, e5, grown, appL_eq]
    · simp only
      rw [T.get_set, if_pos rfl]
    · simp only
      have := hS.1
      rw [T.get_set, if_neg (by omega), T.get_set, if_neg (by omega)]
      exact hS.2 c hc
    · simp only
      have : c ≠ b := fun e => hne (by rw [e]; rfl)
      rw [T.get_set, if_neg (by omega), T.get_set, if_neg this]
/-- a rank is put behind -/
theorem push_rk {S0 S : St} {v : AV} {L : List (Int × Int × Int)} {r : Int × Int × Int} {t : Nat} {o : Bool} {sz : Nat} (h : GrW 3 S0 S v L.length (L.flatMap rkCs)) (hS : Same S0 S) (ht : S.h.get t = some (.cells (rkCs r) o sz)) (hl : L.length ≤ 1000) :
    ∃ v' S', appendV 24 3 v (.sl t 0 1 1 false) S = some (v', S') ∧ GrW 3 S0 S' v' (L ++ [r]).length ((L ++ [r]).flatMap rkCs) ∧ Same S0 S' ∧ S.nx ≤ S'.nx ∧ (∀ c, c < S.nx → blkOf v ≠ some c → S'.h.get c = S.h.get c) := by
  obtain ⟨v', S', e1, e2, e3, e4, e5, _⟩ := GrW.appR (bytes := 24) (m := 1) h hS (by rfl) (src_r3 ht) rfl (by omega) (by unfold room; omega) (by unfold room; omega)
  refine ⟨v', S', e1, ?_, e3, e4, e5⟩
  rw [List.length_append, List.flatMap_append]
  simpa using e2
def rkCl (x : AV) : List AV := x.cells.getD []
/-- the ranks as an array to be sorted -/
noncomputable def rkCtx (H : Has fns) (b n : Nat) (v : AV) (hv : 0 < n → ∃ cap o, v = .sl b 0 n cap o) (hn : n ≤ 1000000000) : Ctx fns true 3 where
  b := b
  off := 0
  n := n
  v := v
  opn := true
  sz := 3
  pre := []
  post := []
  cl := rkCl
  P := fun x => ∃ r, x = rkV r
  f := .fn 14 [] []
  I := fun _ => True
  lt := ltR
  hpre := rfl
  hcl := by
    rintro x ⟨r, rfl⟩
    exact ⟨rfl, rkV_self r, rfl, rfl⟩
  hv := hv
  hn := hn
  hI := fun _ _ _ _ => trivial
  cmp := by
    rintro S x y _ ⟨r, rfl⟩ ⟨s, rfl⟩
    refine wpf_mono (cmpRank_spec H) ?_
    rintro _ S' ⟨rfl, hS⟩
    refine ⟨hS, _, rfl, ?_⟩
    exact decide_eq_decide.2 (rkC_neg r s)
theorem rk_fm (L : List (Int × Int × Int)) : (L.map rkV).flatMap rkCl = L.flatMap rkCs := by rw [List.flatMap_map]; rfl
/-- ranks that lie in newer memory are sorted -/
theorem sort_rk {S0 S : St} {v : AV} {n : Nat} {f : Nat → Int × Int × Int} (H : Has fns) (hf : ∀ i, (f i).1 = (i : Int)) (hS : Same S0 S) (h : GrW 3 S0 S v n (((List.range n).map f).flatMap rkCs)) (hz : n = 0 → v = .nilsl) (hn : n ≤ 1000000000) : wpf fns (.fn 13 [] []) [v, .fn 14 [] []] S fun _ S' => ∃ L : List (Int × Int × Int), L.length = n ∧ GrW 3 S0 S' v n (L.flatMap rkCs) ∧ Same S0 S' ∧ ∀ R : List (Int × Int × Int), R.Perm ((List.range n).map f) → R.Pairwise rkLt → L = R := by
  obtain ⟨b, hb, hv, hlen, hbn⟩ : ∃ b, S0.nx ≤ b ∧ (0 < n → v = .sl b 0 n n true) ∧ lenSlV v = some (.int .i64 (n : Int)) ∧ (0 < n → b < S.nx ∧ S.h.get b = some (.cells (((List.range n).map f).flatMap rkCs) true 3)) := by
    rcases h with ⟨rfl, rfl, h0⟩ | ⟨b, rfl, h1, h2, h3, h4⟩
    · exact ⟨S.nx, hS.1, fun h => by omega, rfl, fun h => by omega⟩
    · exact ⟨b, h1, fun _ => rfl, rfl, fun _ => ⟨h2, h3⟩⟩
  obtain ⟨C, hC⟩ : ∃ C, C = rkCtx H b n v (fun h => ⟨n, true, hv h⟩) hn := ⟨_, rfl⟩
  obtain ⟨d, hd⟩ : ∃ d : Array AV, d = (((List.range n).map f).map rkV).toArray := ⟨_, rfl⟩
  have hdl : d.toList = (List.range n).map fun i => rkV (f i) := by rw [hd, List.map_map]; rfl
  have hds : d.size = n := by rw [hd]; simp
  have hat : C.At S d := by
    subst hC
    refine ⟨hds, fun i hi => ?_, fun h0 => ⟨(hbn h0).1, ?_⟩⟩
    · have hi : i < n := hi
      have := getB d (i := i) (by omega)
      rw [hdl, List.getElem?_map, List.getElem?_range hi] at this
      exact ⟨f i, by simpa using this.symm⟩
    · show S.h.get b = some (.cells ([] ++ d.toList.flatMap rkCl ++ []) true 3)
      rw [(hbn h0).2, List.nil_append, List.append_nil, hd, List.toList_toArray, rk_fm]
  have sp := sortFunc_spec (C := C) H (by subst hC; exact swo_ltR) hat (by subst hC; trivial) (by subst hC; exact hlen)
  have e1 : C.v = v := by subst hC; rfl
  have e2 : C.f = .fn 14 [] [] := by subst hC; rfl
  have e3 : C.n = n := by subst hC; rfl
  have e4 : C.lt = ltR := by subst hC; rfl
  have e5 : C.b = b := by subst hC; rfl
  rw [e1, e2] at sp
  refine wpf_mono sp ?_
  rintro _ S' ⟨e, on, pm, so⟩
  rw [e3] at pm so
  rw [e4] at so
  have hes : e.size = n := by rw [on.1.1, e3]
  have hel : e.toList = (e.toList.map rkOf).map rkV := by
    rw [List.map_map]
    conv => lhs; rw [← List.map_id e.toList]
    refine List.map_congr_left fun x hx => ?_
    have : ∃ r, x = rkV r := by
      have := on.1.all x hx
      subst hC
      exact this
    obtain ⟨r, rfl⟩ := this
    rfl
  have sS : Same S0 S' := SameBut.same hS on.2.2 (by rw [e5]; exact hb)
  refine ⟨e.toList.map rkOf, by simp [hes], ?_, sS, fun R h1 h2 => ?_⟩
  · by_cases h0 : 0 < n
    · obtain ⟨k1, k2⟩ := on.1.2.2 (by rw [e3]; exact h0)
      rw [e5] at k1 k2
      refine .inr ⟨b, hv h0, hb, k1, ?_, ?_⟩
      · rw [k2]
        subst hC
        show some (AB.cells ([] ++ e.toList.flatMap rkCl ++ []) true 3) = _
        rw [List.nil_append, List.append_nil]
        conv => lhs; rw [hel, rk_fm]
      · rw [rk_flat_len]
        simp [hes]
    · have h0 : n = 0 := by omega
      have he0 : e.toList = [] := List.eq_nil_of_length_eq_zero (by simpa [h0] using hes)
      rw [he0]
      exact .inl ⟨hz h0, h0, rfl⟩
  · have := rk_unique hf hdl pm so h1 h2
    rw [this, List.map_map]
    conv => rhs; rw [← List.map_id R]
    rfl
end Go.Ev.Gl

namespace Go.Ev.Gl
open Go.Sort
variable {fns : T AFn}

/-- what both sides return -/
def StndR (S : St) (rows : List (List Int)) (s : Int) (r : AV) (S' : St) : Prop := Same S S' ∧ ((stE rows s ≠ 0 ∧ r = .tup [.nilsl, .int .i64 (stE rows s)]) ∨ (stE rows s = 0 ∧ ∃ u L, r = .tup [u, .int .i64 0] ∧ IsSlG 3 RkE S' u L ∧ ∀ R : List (Int × Int × Int), R.Perm (rks rows s) → R.Pairwise rkLt → L = R))
theorem rks_take (rows : List (List Int)) (s : Int) {i : Nat} (hi : i < rows.length) : (List.range (i + 1)).map (rkAt rows s) = (List.range i).map (rkAt rows s) ++ [rkAt rows s i] := by rw [List.range_succ, List.map_append]; rfl
theorem ld_r {h : Ev.T AB} {b : Nat} {r : Int × Int × Int} {o : Bool} {s : Nat} (hb : h.get b = some (.cells (rkCs r) o s)) : qLdV (.ptr b 0) true 3 h = some (rkV r) := lg3_a hb
theorem rkV_cells (r : Int × Int × Int) : (rkV r).cells = some (rkCs r) := rfl
set_option maxHeartbeats 4000000 in
theorem standing_spec {S : St} {v : AV} {rows : List (List Int)} {s : Int} (H : Has fns) (h : IsSlG 1 SlE S v rows) : wpf fns (.fn 5 [] []) [v, .int .i64 s] S fun r S' => StndR S rows s r S' := by
  refine wpf_fn H.f5 (by simp) ?_
  simp only [↓stU, stD, reduceEqDiff, ↓reduceIte, reduceAdd]
  refine wsr ?_
  simp only [↓stU, stD, reduceEqDiff, ↓reduceIte, reduceAdd]
  refine wss ?_
  simp only [↓stU, stD, reduceEqDiff, ↓reduceIte]
  refine wpo_call ?_
  simp only [↓stU, stD, reduceEqDiff, ↓reduceIte]
  refine wpf_mono (checked_spec H h) ?_
  rintro _ _ ⟨rfl, rfl⟩
  rename_i S
  try simp only [↓stU, stD, reduceEqDiff, ↓reduceIte]
  refine wsr ?_
  simp only [↓stU, stD, reduceEqDiff, ↓reduceIte]
  by_cases h0 : stE rows s = 0
  rotate_left
  · refine wpc_yes (by simp only [↓stU, stD, reduceEqDiff, ↓reduceIte, decide_eq_true (show stE rows s ≠ 0 from h0)]) (wpc_seq (wpc_reg ?_))
    simp only [↓stU, stD, reduceEqDiff, ↓reduceIte]
    refine wpc_ret ?_
    simp only [↓stU, stD, reduceEqDiff, ↓reduceIte]
    exact ⟨Same.refl _, .inl ⟨h0, rfl⟩⟩
  refine wpc_non (by simp only [↓stU, stD, reduceEqDiff, ↓reduceIte, decide_eq_false (show ¬ stE rows s ≠ 0 from fun h => h h0)]) (wpc_skip ?_)
  obtain ⟨hn, hq, hs1, hs2, hg⟩ := stE_zero h0
  try simp only [↓stU, stD, reduceEqDiff, ↓reduceIte]
  refine wsr ?_
  simp only [↓stU, stD, reduceEqDiff, ↓reduceIte]
  refine wpc_seq (wpc_mono (Q := fun o A' X => o = .normal ∧ A'.inr = false ∧ ∃ u, tmpV 7 A'.F = u ∧ GrW 3 S X u rows.length ((rks rows s).flatMap rkCs) ∧ (rows.length = 0 → u = .nilsl) ∧ Same S X) (wpc_seq (wpc_reg ?_)) ?_)
  · simp only [↓stU, stD, reduceEqDiff, ↓reduceIte, h.len]
    refine wpc_block (wpc_loop (fun k A' X => A'.inr = false ∧ Same S X ∧ ∃ (i : Nat) (u : AV), i + k = rows.length ∧ tmpV 0 A'.F = v ∧ tmpV 1 A'.F = .int .i64 s ∧ tmpV 7 A'.F = u ∧ tmpV 22 A'.F = v ∧ tmpV 23 A'.F = .int .i64 (rows.length : Int) ∧ tmpV 24 A'.F = .int .i64 (i : Int) ∧ GrW 3 S X u i (((List.range i).map (rkAt rows s)).flatMap rkCs) ∧ (i = 0 → u = .nilsl)) ?_ rows.length _ _ ⟨rfl, Same.refl _, 0, .nilsl, by omega, by simp only [↓stU, stD, reduceEqDiff, ↓reduceIte], by simp only [↓stU, stD, reduceEqDiff, ↓reduceIte], by simp only [↓stU, stD, reduceEqDiff, ↓reduceIte], by simp only [↓stU, stD, reduceEqDiff, ↓reduceIte], by simp only [↓stU, stD, reduceEqDiff, ↓reduceIte], by simp only [↓stU, stD, reduceEqDiff, ↓reduceIte], .inl ⟨rfl, rfl, rfl⟩, fun _ => rfl⟩)
    rintro k ⟨F, inr⟩ X ⟨q0, hX, i, u, hik, p0, p1, p7, p22, p23, p24, gw, hz⟩
    simp only at q0 p0 p1 p7 p22 p23 p24
    subst q0
    refine wsr ?_
    simp only [↓stU, stD, reduceEqDiff, ↓reduceIte, p23, p24, dlt]
    by_cases hi : i < rows.length
    rotate_left
    · refine wpc_seq (wpc_non (by simp only [↓stU, stD, reduceEqDiff, ↓reduceIte, decide_eq_false hi]) (wpc_exit ?_))
      have e : i = rows.length := by omega
      subst e
      exact ⟨rfl, rfl, u, by simp only [↓stU, stD, reduceEqDiff, ↓reduceIte, p7], gw, hz, hX⟩
    refine wpc_seq (wpc_yes (by simp only [↓stU, stD, reduceEqDiff, ↓reduceIte, decide_eq_true hi]) (wpc_skip ?_))
    try simp only [↓stU, stD, reduceEqDiff, ↓reduceIte]
    obtain ⟨a, b, p, ia, lb, la, hr⟩ := rowS_at (IsSlG.same (E := SlE) firm_sl h hX) hi
    have hrl := hq i hi
    refine wpc_seq (wpc_block (wpc_seq (wpc_reg ?_)))
    simp only [↓stU, stD, reduceEqDiff, ↓reduceIte, p22, p24, natOf_cast, ia, la]
    have hp1 : (0 : Int) ≤ s * ((rows.length : Int) - 1) := Int.mul_nonneg hs1 (by omega)
    have hp2 : s * ((rows.length : Int) - 1) ≤ 1000 * 20 := Int.mul_le_mul hs2 (by omega) (by omega) (by omega)
    refine wsr ?_
    simp only [↓stU, stD, reduceEqDiff, ↓reduceIte, p0, p1, h.len, wrap_i64 (n := (rows.length : Int) - 1) (by omega) (by omega), wrap_i64 (n := s * ((rows.length : Int) - 1)) (by omega) (by omega), isLoad_build]
    rw [evQ_b02 (by simp only [↓stU, stD, reduceEqDiff, ↓reduceIte, cells_int]) (by simp only [↓stU, stD, reduceEqDiff, ↓reduceIte, cells_int])]
    simp only [↓stU, stD, reduceEqDiff, ↓reduceIte]
    refine wpo_alloc ?_
    intro X1 x1 n1 g1
    try simp only [↓stU, stD, reduceEqDiff, ↓reduceIte]
    have hst := xst_all (cs' := rkCs ((i : Int), 0, s * ((rows.length : Int) - 1))) g1 rfl rfl
    refine wpo_x (v := .undef) (fun call => by rw [evX_st]; simp only [↓stU, stD, reduceEqDiff, ↓reduceIte, cells_agg]; exact hst) ?_
    obtain ⟨X2, hX2⟩ : ∃ X2 : St, X2 = ⟨X1.h.set X.nx (some (.cells (rkCs ((i : Int), 0, s * ((rows.length : Int) - 1))) false 0)), X1.nx⟩ := ⟨_, rfl⟩
    rw [← hX2]
    have x2 : Same X X2 := by
      rw [hX2]
      refine ⟨by show X.nx ≤ X1.nx; omega, fun c hc => ?_⟩
      simp only
      rw [T.get_set, if_neg (by omega)]
      exact x1.2 c hc
    have g2 : X2.h.get X.nx = some (.cells (rkCs ((i : Int), 0, s * ((rows.length : Int) - 1))) false 0) := by
      rw [hX2]
      simp only
      rw [T.get_set, if_pos rfl]
    have n2 : X2.nx = X.nx + 1 := by rw [hX2]; exact n1
    clear hst hX2 g1 x1 n1
    have hXX := hX.1
    -- the sum
    try simp only [↓stU, stD, reduceEqDiff, ↓reduceIte]
    refine wpc_seq (wpc_mono (Q := fun o A' Y => o = .normal ∧ A'.inr = false ∧ tmpV 0 A'.F = v ∧ tmpV 1 A'.F = .int .i64 s ∧ tmpV 7 A'.F = u ∧ tmpV 10 A'.F = .ptr X.nx 0 ∧ tmpV 22 A'.F = v ∧ tmpV 23 A'.F = .int .i64 (rows.length : Int) ∧ tmpV 24 A'.F = .int .i64 (i : Int) ∧ SameBut X.nx X2 Y ∧ Y.nx = X2.nx ∧ Y.h.get X.nx = some (.cells (rkCs (rkAt rows s i)) false 0)) (wpc_seq (wpc_reg ?_)) ?_)
    · simp only [↓stU, stD, reduceEqDiff, ↓reduceIte, hr.len]
      refine wpc_block (wpc_loop (fun m A' Y => A'.inr = false ∧ tmpV 0 A'.F = v ∧ tmpV 1 A'.F = .int .i64 s ∧ tmpV 7 A'.F = u ∧ tmpV 10 A'.F = .ptr X.nx 0 ∧ tmpV 22 A'.F = v ∧ tmpV 23 A'.F = .int .i64 (rows.length : Int) ∧ tmpV 24 A'.F = .int .i64 (i : Int) ∧ tmpV 36 A'.F = a ∧ tmpV 37 A'.F = .int .i64 ((rows.getD i []).length : Int) ∧ SameBut X.nx X2 Y ∧ Y.nx = X2.nx ∧ ∃ j : Nat, j + m = (rows.getD i []).length ∧ tmpV 38 A'.F = .int .i64 (j : Int) ∧ Y.h.get X.nx = some (.cells (rkCs ((i : Int), ((rows.getD i []).take j).sum, s * ((rows.length : Int) - 1))) false 0)) ?_ (rows.getD i []).length _ _ ⟨rfl, by simp only [↓stU, stD, reduceEqDiff, ↓reduceIte, p0], by simp only [↓stU, stD, reduceEqDiff, ↓reduceIte, p1], by simp only [↓stU, stD, reduceEqDiff, ↓reduceIte, p7], by simp only [↓stU, stD, reduceEqDiff, ↓reduceIte], by simp only [↓stU, stD, reduceEqDiff, ↓reduceIte, p22], by simp only [↓stU, stD, reduceEqDiff, ↓reduceIte, p23], by simp only [↓stU, stD, reduceEqDiff, ↓reduceIte, p24], by simp only [↓stU, stD, reduceEqDiff, ↓reduceIte], by simp only [↓stU, stD, reduceEqDiff, ↓reduceIte], SameBut.refl _ _, rfl, 0, by omega, by simp only [↓stU, stD, reduceEqDiff, ↓reduceIte], g2⟩)
      clear p0 p1 p7 p22 p23 p24
      rintro m ⟨F, inr⟩ Y ⟨q0, p0, p1, p7, p10, p22, p23, p24, p36, p37, hY, nY, j, hjm, p38, gY⟩
      simp only at q0 p0 p1 p7 p10 p22 p23 p24 p36 p37 p38
      subst q0
      refine wsr ?_
      simp only [↓stU, stD, reduceEqDiff, ↓reduceIte, p37, p38, dlt]
      by_cases hj : j < (rows.getD i []).length
      rotate_left
      · refine wpc_seq (wpc_non (by simp only [↓stU, stD, reduceEqDiff, ↓reduceIte, decide_eq_false hj]) (wpc_exit ?_))
        rw [List.take_of_length_le (by omega)] at gY
        exact ⟨rfl, rfl, by simp only [↓stU, stD, reduceEqDiff, ↓reduceIte, p0], by simp only [↓stU, stD, reduceEqDiff, ↓reduceIte, p1], by simp only [↓stU, stD, reduceEqDiff, ↓reduceIte, p7], by simp only [↓stU, stD, reduceEqDiff, ↓reduceIte, p10], by simp only [↓stU, stD, reduceEqDiff, ↓reduceIte, p22], by simp only [↓stU, stD, reduceEqDiff, ↓reduceIte, p23], by simp only [↓stU, stD, reduceEqDiff, ↓reduceIte, p24], hY, nY, gY⟩
      refine wpc_seq (wpc_yes (by simp only [↓stU, stD, reduceEqDiff, ↓reduceIte, decide_eq_true hj]) (wpc_skip ?_))
      try simp only [↓stU, stD, reduceEqDiff, ↓reduceIte]
      have hrY : IsSl .i64 Y a (rows.getD i []) := (hr.same (Same.refl X)).same (SameBut.same x2 hY (Nat.le_refl _))
      have ja := hrY.iaddr hj
      have jl := hrY.ld hj
      have bnd := sum_bound (rows.getD i []) (j + 1) fun t ht => by
        have := hg i t hi (by omega)
        unfold badSt at this
        omega
      rw [sumS_take _ hj] at bnd
      have e1 : qLdV (.ptr X.nx (0 + 1)) false 1 Y.h = some (.int .i64 ((rows.getD i []).take j).sum) := lg3_1 gY
      refine wpc_seq (wpc_block (wpc_seq (wpc_reg ?_)))
      simp only [↓stU, stD, reduceEqDiff, ↓reduceIte, p36, p38, natOf_cast, ja, jl]
      refine wpc_reg ?_
      simp only [↓stU, stD, reduceEqDiff, ↓reduceIte, p10, evQ_faddr, faddr_ptr, isLoad_faddr, e1, wrap_i64 (n := ((rows.getD i []).take j).sum + (rows.getD i []).getD j 0) (by omega) (by omega)]
      have hst := stc (p := 0 + 1) (w := .int .i64 (((rows.getD i []).take j).sum + (rows.getD i []).getD j 0)) gY (by simp [rkCs])
      refine wpo_x (v := .undef) (fun call => by rw [evX_st]; simp only [↓stU, stD, reduceEqDiff, ↓reduceIte, cells_int]; exact hst) ?_
      simp only [↓stU, stD, reduceEqDiff, ↓reduceIte]
      refine wpc_reg ?_
      simp only [↓stU, stD, reduceEqDiff, ↓reduceIte, p38, wadd1 (a := j) (by omega)]
      refine ⟨m - 1, by omega, p0, p1, p7, p10, p22, p23, p24, p36, p37, hY.put _, nY, j + 1, by omega, rfl, ?_⟩
      rw [T.get_set, if_pos rfl, sumS_take _ hj]
      rfl
    clear p0 p1 p7 p22 p23 p24
    rintro o ⟨F, inr⟩ Y ⟨rfl, q0, p0, p1, p7, p10, p22, p23, p24, hY, nY, gY⟩
    simp only at q0 p0 p1 p7 p10 p22 p23 p24
    subst q0
    try simp only [↓stU, stD, reduceEqDiff, ↓reduceIte]
    have sY : Same S Y := SameBut.same (hX.trans x2) hY hXX
    have gwY : GrW 3 S Y u i (((List.range i).map (rkAt rows s)).flatMap rkCs) := (gw.step x2).move (by omega) fun c hc => hY.2 c (by have := (gw.blk hc).2.1; omega) (by have := (gw.blk hc).2.1; omega)
    refine wpc_reg ?_
    simp only [↓stU, stD, reduceEqDiff, ↓reduceIte, p7, p10, ld_r gY, rkV_self]
    refine wpo_al (evA_r3 (r := rkAt rows s i) (by simp only [↓stU, stD, reduceEqDiff, ↓reduceIte])) ?_
    intro Z z nZ gZ
    try simp only [↓stU, stD, reduceEqDiff, ↓reduceIte, p7]
    have eL : ((List.range i).map (rkAt rows s)).length = i := by simp
    have gwZ : GrW 3 S Z u ((List.range i).map (rkAt rows s)).length (((List.range i).map (rkAt rows s)).flatMap rkCs) := by
      rw [eL]
      exact gwY.step z
    obtain ⟨u', W, eA, gA, sA, nA, kA⟩ := push_rk (r := rkAt rows s i) gwZ (sY.trans z) gZ (by rw [eL]; omega)
    rw [← rks_take rows s hi] at gA
    refine wpo_x (v := u') (S1 := W) (fun call => by rw [evX_app]; simp only [↓stU, stD, reduceEqDiff, ↓reduceIte]; exact eA) ?_
    simp only [↓stU, stD, reduceEqDiff, ↓reduceIte]
    refine wpc_reg ?_
    simp only [↓stU, stD, reduceEqDiff, ↓reduceIte, p24, wadd1 (a := i) (by omega)]
    refine ⟨k - 1, by omega, sA, i + 1, u', by omega, p0, p1, rfl, p22, p23, rfl, ?_, fun h => by omega⟩
    simpa using gA
  rintro o ⟨F, inr⟩ X ⟨rfl, q0, u, p7, gw, hz, hX⟩
  simp only at q0 p7
  subst q0
  try simp only [↓stU, stD, reduceEqDiff, ↓reduceIte]
  refine wsr ?_
  simp only [↓stU, stD, reduceEqDiff, ↓reduceIte, p7]
  refine wpo_call ?_
  try simp only [↓stU, stD, reduceEqDiff, ↓reduceIte, p7]
  refine wpf_mono (sort_rk (f := rkAt rows s) H (fun i => rfl) hX gw hz (by omega)) ?_
  rintro _ Y ⟨L, hL, gwY, hY, hun⟩
  try simp only [↓stU, stD, reduceEqDiff, ↓reduceIte]
  refine wsr ?_
  simp only [↓stU, stD, reduceEqDiff, ↓reduceIte]
  have isY : IsSlG 3 RkE Y u L := by
    rw [← hL] at gwY
    exact gwY.rk
  refine wpc_seq (wpc_mono (Q := fun o A' X => o = .normal ∧ ∃ w, tmpV 13 A'.F = w ∧ GrW 3 Y X w L.length (L.flatMap rkCs) ∧ Same Y X) (wpc_seq (wpc_reg ?_)) ?_)
  · simp only [↓stU, stD, reduceEqDiff, ↓reduceIte, p7, isY.len]
    refine wpc_block (wpc_loop (fun k A' X => A'.inr = false ∧ Same Y X ∧ ∃ (i : Nat) (w : AV), i + k = L.length ∧ tmpV 13 A'.F = w ∧ tmpV 55 A'.F = u ∧ tmpV 56 A'.F = .int .i64 (L.length : Int) ∧ tmpV 57 A'.F = .int .i64 (i : Int) ∧ GrW 3 Y X w i ((L.take i).flatMap rkCs)) ?_ L.length _ _ ⟨rfl, Same.refl _, 0, .nilsl, by omega, by simp only [↓stU, stD, reduceEqDiff, ↓reduceIte], by simp only [↓stU, stD, reduceEqDiff, ↓reduceIte], by simp only [↓stU, stD, reduceEqDiff, ↓reduceIte], by simp only [↓stU, stD, reduceEqDiff, ↓reduceIte], .inl ⟨rfl, rfl, rfl⟩⟩)
    clear p7 gw hz hX
    rintro k ⟨F, inr⟩ X ⟨q0, hX, i, w, hik, p13, p55, p56, p57, gw⟩
    simp only at q0 p13 p55 p56 p57
    subst q0
    refine wsr ?_
    simp only [↓stU, stD, reduceEqDiff, ↓reduceIte, p56, p57, dlt]
    by_cases hi : i < L.length
    rotate_left
    · refine wpc_seq (wpc_non (by simp only [↓stU, stD, reduceEqDiff, ↓reduceIte, decide_eq_false hi]) (wpc_exit ?_))
      have e : i = L.length := by omega
      subst e
      rw [List.take_length] at gw
      exact ⟨rfl, w, by simp only [↓stU, stD, reduceEqDiff, ↓reduceIte, p13], gw, hX⟩
    refine wpc_seq (wpc_yes (by simp only [↓stU, stD, reduceEqDiff, ↓reduceIte, decide_eq_true hi]) (wpc_skip ?_))
    try simp only [↓stU, stD, reduceEqDiff, ↓reduceIte]
    obtain ⟨e, b, p, ia, lb, _, he, la, _⟩ := IsSlG.at (IsSlG.same (E := RkE) firm_rk isY hX) (by decide) (List.getElem?_eq_getElem hi)
    have he : e = rkCs L[i] := he
    subst he
    have la : qLdV (.ptr b p) true 3 X.h = some (rkV L[i]) := la
    refine wpc_seq (wpc_block (wpc_seq (wpc_reg ?_)))
    simp only [↓stU, stD, reduceEqDiff, ↓reduceIte, p55, p57, natOf_cast, ia, la, rkV_self]
    refine wpo_alloc ?_
    intro X1 x1 n1 g1
    try simp only [↓stU, stD, reduceEqDiff, ↓reduceIte]
    have hst := xst_all (cs' := rkCs L[i]) g1 rfl rfl
    refine wpo_x (v := .undef) (fun call => by rw [evX_st]; simp only [↓stU, stD, reduceEqDiff, ↓reduceIte, rkV_cells]; exact hst) ?_
    obtain ⟨X2, hX2⟩ : ∃ X2 : St, X2 = ⟨X1.h.set X.nx (some (.cells (rkCs L[i]) false 0)), X1.nx⟩ := ⟨_, rfl⟩
    rw [← hX2]
    have x2 : Same X X2 := by
      rw [hX2]
      refine ⟨by show X.nx ≤ X1.nx; omega, fun c hc => ?_⟩
      simp only
      rw [T.get_set, if_neg (by omega)]
      exact x1.2 c hc
    have g2 : X2.h.get X.nx = some (.cells (rkCs L[i]) false 0) := by
      rw [hX2]
      simp only
      rw [T.get_set, if_pos rfl]
    try simp only [↓stU, stD, reduceEqDiff, ↓reduceIte]
    refine wpc_reg ?_
    simp only [↓stU, stD, reduceEqDiff, ↓reduceIte, p13, ld_r g2, rkV_self]
    refine wpo_al (evA_r3 (r := L[i]) (by simp only [↓stU, stD, reduceEqDiff, ↓reduceIte])) ?_
    intro Z z nZ gZ
    try simp only [↓stU, stD, reduceEqDiff, ↓reduceIte, p13]
    have eL : (L.take i).length = i := by rw [List.length_take]; omega
    have gwZ : GrW 3 Y Z w (L.take i).length ((L.take i).flatMap rkCs) := by
      rw [eL]
      exact gw.step (x2.trans z)
    obtain ⟨w', W, eA, gA, sA, nA, kA⟩ := push_rk (r := L[i]) gwZ (hX.trans (x2.trans z)) gZ (by rw [eL]; omega)
    rw [show L.take i ++ [L[i]] = L.take (i + 1) by rw [List.take_add_one, List.getElem?_eq_getElem hi]; rfl] at gA
    refine wpo_x (v := w') (S1 := W) (fun call => by rw [evX_app]; simp only [↓stU, stD, reduceEqDiff, ↓reduceIte]; exact eA) ?_
    simp only [↓stU, stD, reduceEqDiff, ↓reduceIte]
    refine wpc_reg ?_
    simp only [↓stU, stD, reduceEqDiff, ↓reduceIte, p57, wadd1 (a := i) (by omega)]
    refine ⟨k - 1, by omega, sA, i + 1, w', by omega, rfl, p55, p56, rfl, ?_⟩
    rwa [show (L.take (i + 1)).length = i + 1 by rw [List.length_take]; omega] at gA
  rintro o ⟨F, inr⟩ Z ⟨rfl, w, p13, gwZ, hZ⟩
  simp only at p13
  try simp only [↓stU, stD, reduceEqDiff, ↓reduceIte]
  refine wsr ?_
  simp only [↓stU, stD, reduceEqDiff, ↓reduceIte, p13]
  refine wpc_ret ?_
  simp only [↓stU, stD, reduceEqDiff, ↓reduceIte]
  exact ⟨hY.trans hZ, .inr ⟨h0, w, L, rfl, gwZ.rk, hun⟩⟩
end Go.Ev.Gl
