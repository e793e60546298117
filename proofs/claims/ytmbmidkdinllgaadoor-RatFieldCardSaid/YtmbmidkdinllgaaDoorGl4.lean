/- Contracts (4): rational numbers, the statements' tools, the law. -/
import Derived.Test.YtmbmidkdinllgaaDoorGl3
set_option maxHeartbeats 4000000
set_option linter.unusedSimpArgs false
set_option linter.unusedVariables false
namespace Go.Ev.Gl
variable {fns : T AFn}

/-! ## The rules, with what lies beyond the last block -/
theorem wpo_boxF {d t m : Nat} {x : Opd} {l : List AO} {F : Fr} {S : St} {Q : Fr → St → Prop} {cs : List AV} (hc : (x.val F).cells = some cs) (h : ∀ S1, Same S S1 → S1.nx = S.nx + 1 → S1.h.get S.nx = some (.cells cs false 0) → Frs S S1 → wpo fns l (putF (some d) F (.ptr S.nx 0)) S1 Q) : wpo fns (⟨some d, .a (.box t x), none, m⟩ :: l) F S Q := by
  rw [wpo_aE]
  refine ⟨(.ptr S.nx 0, .cells cs false 0), by rw [evA_box, hc]; rfl, h _ (Same.alloc S _) rfl ?_ (frs_alloc S _)⟩
  simp only
  rw [T.get_set, if_pos rfl]
theorem wpo_allocF {d t m : Nat} {l : List AO} {F : Fr} {S : St} {Q : Fr → St → Prop} {cs : List AV} (h : ∀ S1, Same S S1 → S1.nx = S.nx + 1 → S1.h.get S.nx = some (.cells cs false 0) → Frs S S1 → wpo fns l (putF (some d) F (.ptr S.nx 0)) S1 Q) : wpo fns (⟨some d, .a (.alloc t cs), none, m⟩ :: l) F S Q := by
  rw [wpo_aE]
  refine ⟨(.ptr S.nx 0, .cells cs false 0), rfl, h _ (Same.alloc S _) rfl ?_ (frs_alloc S _)⟩
  simp only
  rw [T.get_set, if_pos rfl]
theorem wpo_stF {n m b s : Nat} {x v : Opd} {l : List AO} {F : Fr} {S : St} {Q : Fr → St → Prop} {cs cs' : List AV} {o : Bool} (hx : x.val F = .ptr b 0) (hv : (v.val F).cells = some cs') (hb : S.h.get b = some (.cells cs o s)) (h1 : cs.length = n) (h2 : cs'.length = n)
    (h : ∀ S1, SameBut b S S1 → S1.nx = S.nx → S1.h.get b = some (.cells cs' o s) → Frs S S1 → wpo fns l F S1 Q) : wpo fns (⟨none, .x (.st n x v), none, m⟩ :: l) F S Q := by
  refine wpo_x (v := .undef) (fun call => ?_) (h ⟨S.h.set b (some (.cells cs' o s)), S.nx⟩ ((SameBut.refl b S).put _) rfl ?_ (frs_set hb _))
  · rw [evX_st, hv, osel_some, hx]; exact xst_all hb h1 h2
  · simp only
    rw [T.get_set, if_pos rfl]
theorem wpc_drd2 (W : Nat → Prop) {ops : List AO} {A : Act'} {S : St} {Q : Out → Act' → St → Prop} (h : ∀ S1, Same S S1 → S1.h = S.h → S1.nx = S.nx + ops.length → runD fns W S.h S.nx ops 0 A.F S1 [] none fun F S' ps => Q .normal ⟨F, A.inr⟩ ⟨(flush (2 ^ ops.length - 1) ps S'.h).2, S'.nx⟩) : wpc fns (.drw ops) A S Q := wpc_drd W (h _ (Same.nx S _) rfl rfl)

theorem rsub_spec {S : St} {a b : AV} {p q : Rat} (H : Has fns) (hL : Laid S) (hF : Fresh S) (ha : RatIs S a p) (hb : RatIs S b q) (hp : InBound p) (hq : InBound q) (hin : InBound (p + -q)) : wpf fns (.fn 24 [] []) [a, b] S fun r S' => ∃ v, r = .tup [v, .int .i64 0] ∧ RatIs S' v (p + -q) ∧ Same S S' := by
  obtain ⟨a0, a1, a2, rfl⟩ := ha.cells
  obtain ⟨b0, b1, b2, rfl⟩ := hb.cells
  refine wpf_fn H.f24 (by simp) ?_
  simp only [↓stU, stD, Nat.reduceEqDiff, ↓reduceIte, reduceCtorEq]
  refine wpc_seq (wpc_reg ?_)
  refine wpo_boxF (by simp only [↓stU, stD, Nat.reduceEqDiff, ↓reduceIte, reduceCtorEq, cells_agg]; rfl) ?_
  intro S1 hS1 hn1 hc1 fr1
  refine wpo_boxF (by simp only [↓stU, stD, Nat.reduceEqDiff, ↓reduceIte, reduceCtorEq, cells_agg]; rfl) ?_
  intro S2 hS2 hn2 hc2 fr2
  refine wpo_allocF ?_
  intro S3 hS3 hn3 hc3 fr3
  simp only [↓stU, stD, Nat.reduceEqDiff, ↓reduceIte, reduceCtorEq]
  have g1 : S3.h.get S.nx = some (.cells [a0, a1, a2] false 0) := by rw [hS3.2 _ (by omega), hS2.2 _ (by omega)]; exact hc1
  have g2 : S3.h.get S1.nx = some (.cells [b0, b1, b2] false 0) := by rw [hS3.2 _ (by omega)]; exact hc2
  have hS := hS1.trans (hS2.trans hS3)
  refine wpc_seq (wpc_seq (wpc_reg ?_))
  simp only [↓stU, stD, Nat.reduceEqDiff, ↓reduceIte, reduceCtorEq, ld3 g1, ld3 g2]
  refine wpo_call ?_
  simp only [↓stU, stD, Nat.reduceEqDiff, ↓reduceIte, reduceCtorEq]
  refine wpf_mono (wpf_fresh (both_ok H (hL.same hS) (ha.same hS) (hb.same hS) hp hq)) ?_
  rintro _ S4 ⟨⟨rfl, hS4⟩, fr4⟩
  try simp only [↓stU, stD, Nat.reduceEqDiff, ↓reduceIte, reduceCtorEq]
  refine wpc_seq (wpc_reg ?_)
  simp only [↓stU, stD, Nat.reduceEqDiff, ↓reduceIte, reduceCtorEq]
  refine wpc_if (t := false) (by simp only [↓stU, stD, Nat.reduceEqDiff, ↓reduceIte, reduceCtorEq]; rfl) (fun h => by cases h) (fun _ => wpc_skip ?_)
  simp only [↓stU, stD, Nat.reduceEqDiff, ↓reduceIte, reduceCtorEq]
  refine wpc_seq (wpc_reg ?_)
  refine wpo_call ?_
  simp only [↓stU, stD, Nat.reduceEqDiff, ↓reduceIte, reduceCtorEq]
  refine wpf_mono (wpf_fresh (one_spec H.f66)) ?_
  rintro ov S5 ⟨⟨ho, hS5⟩, fr5⟩
  try simp only [↓stU, stD, Nat.reduceEqDiff, ↓reduceIte, reduceCtorEq]
  refine wpo_call ?_
  simp only [↓stU, stD, Nat.reduceEqDiff, ↓reduceIte, reduceCtorEq]
  refine wpf_mono (wpf_fresh (whole_spec H ho (Fits.of (i := 1) (by decide) (by decide)))) ?_
  rintro wv S6 ⟨⟨hw, hS6⟩, fr6⟩
  rw [sg_one] at hw
  obtain ⟨w0, w1, w2, rfl⟩ := hw.cells
  refine wpo_allocF ?_
  intro S7 hS7 hn7 hc7 fr7
  refine wpo_stF (b := S6.nx) (by simp only [↓stU, stD, Nat.reduceEqDiff, ↓reduceIte, reduceCtorEq]) (by simp only [↓stU, stD, Nat.reduceEqDiff, ↓reduceIte, reduceCtorEq, cells_agg]; rfl) hc7 rfl rfl ?_
  intro S8 hS8 hn8 hc8 fr8
  simp only [↓stU, stD, Nat.reduceEqDiff, ↓reduceIte, reduceCtorEq]
  have hF8 : Fresh S8 := fr8.1 (fr7.1 (fr6.1 (fr5.1 (fr4.1 (fr3.1 (fr2.1 (fr1.1 hF)))))))
  have h68 : Same S6 S8 := hS8.same hS7 (Nat.le_refl _)
  have h38 := hS4.trans (hS5.trans (hS6.trans h68))
  have hS8' := hS.trans h38
  have k1 : S8.h.get S.nx = some (.cells [a0, a1, a2] false 0) := by rw [h38.2 _ (by omega)]; exact g1
  have k2 : S8.h.get S1.nx = some (.cells [b0, b1, b2] false 0) := by rw [h38.2 _ (by omega)]; exact g2
  have k3 : S8.h.get S2.nx = some (.cells [.bool false, .nilsl, .nilsl] false 0) := by rw [h38.2 _ (by omega)]; exact hc3
  have hl8 := h38.1
  have hl6 := h68.1
  have hl36 := (hS4.trans (hS5.trans hS6)).1
  have lt1 : S.nx < S8.nx := by omega
  have lt2 : S1.nx < S8.nx := by omega
  have lt3 : S6.nx < S8.nx := by omega
  have ne1 : ¬ S.nx = S2.nx := by omega
  have ne2 : ¬ S1.nx = S2.nx := by omega
  have ne3 : ¬ S6.nx = S2.nx := by omega
  refine wpc_seq (wpc_drd2 (fun c => c = S2.nx) ?_)
  intro S9 hS9 he9 hn9
  simp only [List.length_cons, List.length_nil, Nat.reduceAdd] at hn9
  simp only [↓stU, stD, Nat.reduceEqDiff, ↓reduceIte, reduceCtorEq, ↓stV, stW, Nat.reduceAdd, ld3 k1, ld3 k2, ld3 hc8, lt1, lt2, lt3, ne1, ne2, ne3, not_false_eq_true, self_rat ha, self_rat hb, self_rat hw, evQ_b6, join6_eq, isLoad_build]
  refine runD_call0 rfl ?_
  try simp only [↓stU, stD, Nat.reduceEqDiff, ↓reduceIte, reduceCtorEq, ↓stV, stW, Nat.reduceAdd]
  have hS9' := hS8'.trans hS9
  refine wpf_mono (negative_spec H (hb.same hS9') hq.half.fits) ?_
  rintro nvv S10 ⟨hnv, hS10⟩
  refine ⟨hS10, ?_⟩
  obtain ⟨n0, n1, n2, rfl⟩ := hnv.cells
  simp only [↓stU, stD, Nat.reduceEqDiff, ↓reduceIte, reduceCtorEq, ↓stV, stW, Nat.reduceAdd, ld3 hc8, lt3, ne3, not_false_eq_true, self_rat hw, evQ_b6, join6_eq, isLoad_build, evA_bs2, bs2_eq]
  have hnone : S10.h.get (S8.nx + 7) = none := by rw [hS10.2 _ (by omega), he9]; exact hF8 _ (by omega)
  refine runD_call1 (by rfl) rfl ?_
  intro S11 hS11 hn11 hc11
  try simp only [↓stU, stD, Nat.reduceEqDiff, ↓reduceIte, reduceCtorEq, ↓stV, stW, Nat.reduceAdd]
  have h810 := hS9.trans hS10
  have h811 : Same S8 S11 := hS11.same h810 (by omega)
  have hS11' := hS8'.trans h811
  have hw11 := hw.same (h68.trans h811)
  obtain ⟨pr0, pr1⟩ := pairs2 hc11 (ha.same hS11') hw11 (hnv.lay hnone hS11) hw11
  have hnq : InBound (-q) := Bnd.neg (i := 1024) hq
  have hl10 := hS10.1
  refine wpf_mono (total2 H (hL.same hS11') (by omega) pr0 pr1 hp hnq hin) ?_
  rintro _ S12 ⟨v, rfl, hv, hS12⟩
  refine ⟨hS12, ?_⟩
  obtain ⟨c0, c1, c2, rfl⟩ := hv.cells
  simp only [↓stU, stD, Nat.reduceEqDiff, ↓reduceIte, reduceCtorEq, ↓stV, stW, Nat.reduceAdd, ex0, ex1]
  have k12 : S12.h.get S2.nx = some (.cells [.bool false, .nilsl, .nilsl] false 0) := by rw [hS12.2 _ (by omega), h811.2 _ (by omega)]; exact k3
  refine runD_st0 (b := S2.nx) rfl (by simp only [↓stU, stD, Nat.reduceEqDiff, ↓reduceIte, reduceCtorEq, ↓stV, stW, Nat.reduceAdd]) (by simp only [↓stU, stD, Nat.reduceEqDiff, ↓reduceIte, reduceCtorEq, ↓stV, stW, Nat.reduceAdd, cells_agg]; rfl) k12 rfl rfl rfl ?_
  intro S13 hS13 hn13 hb13
  try simp only [↓stU, stD, Nat.reduceEqDiff, ↓reduceIte, reduceCtorEq, ↓stV, stW, Nat.reduceAdd]
  refine wpc_ret ?_
  simp only [↓stU, stD, Nat.reduceEqDiff, ↓reduceIte, reduceCtorEq, ↓stV, stW, Nat.reduceAdd, results_cell, ld3 hb13]
  exact ⟨_, rfl, hv.st k12 rfl hS13 hb13, hS13.same (hS11'.trans hS12) (by omega)⟩

/-! ## Signs -/
def sgn (q : Rat) : Int := if q.num = 0 then 1 else if q.num < 0 then 0 else 2
theorem signOf_spec {S : St} {v : AV} {q : Rat} (H : Has fns) (h : RatIs S v q) : wpf fns (.fn 51 [] []) [v] S fun r S' => r = .int .i64 (sgn q) ∧ Same S S' := by
  obtain ⟨nv, dv, rfl, h1, h2⟩ := h
  obtain ⟨k, hk, hk0⟩ := lenpos h1
  refine wpf_fn H.f51 (by simp) ?_
  simp only [↓stU, stD, Nat.reduceEqDiff, ↓reduceIte, reduceCtorEq]
  refine wpc_seq (wpc_reg ?_)
  refine wpo_box (by simp only [↓stU, stD, Nat.reduceEqDiff, ↓reduceIte, reduceCtorEq, cells_agg]; rfl) ?_
  intro S1 hS1 hn1 hb1
  simp only [↓stU, stD, Nat.reduceEqDiff, ↓reduceIte, reduceCtorEq]
  refine wpc_seq (wpc_block (wpc_seq (wpc_reg ?_)))
  simp only [↓stU, stD, Nat.reduceEqDiff, ↓reduceIte, reduceCtorEq, evQ_faddr, faddr_ptr, ld3_1 hb1, hk]
  by_cases h0 : q.num = 0
  · have : k = 0 := hk0.2 (by omega)
    refine wpc_if (t := true) (by simp only [↓stU, stD, Nat.reduceEqDiff, ↓reduceIte, reduceCtorEq, decide_eq_true (show (k : Int) = 0 by omega)]) (fun _ => ?_) (fun h => by cases h)
    refine wpc_seq (wpc_reg ?_)
    simp only [↓stU, stD, Nat.reduceEqDiff, ↓reduceIte, reduceCtorEq]
    refine wpc_ret ?_
    simp only [↓stU, stD, Nat.reduceEqDiff, ↓reduceIte, reduceCtorEq, sgn, if_pos h0]
    exact hS1
  have : ¬ k = 0 := fun h => h0 (by have := hk0.1 h; omega)
  refine wpc_if (t := false) (by simp only [↓stU, stD, Nat.reduceEqDiff, ↓reduceIte, reduceCtorEq, decide_eq_false (show ¬ (k : Int) = 0 by omega)]) (fun h => by cases h) (fun _ => ?_)
  refine wpc_seq (wpc_reg ?_)
  simp only [↓stU, stD, Nat.reduceEqDiff, ↓reduceIte, reduceCtorEq, evQ_faddr, faddr_ptr, ld3_0 hb1]
  by_cases h1 : q.num < 0
  · refine wpc_if (t := true) (by simp only [↓stU, stD, Nat.reduceEqDiff, ↓reduceIte, reduceCtorEq, decide_eq_true h1]) (fun _ => ?_) (fun h => by cases h)
    refine wpc_seq (wpc_reg ?_)
    simp only [↓stU, stD, Nat.reduceEqDiff, ↓reduceIte, reduceCtorEq]
    refine wpc_ret ?_
    simp only [↓stU, stD, Nat.reduceEqDiff, ↓reduceIte, reduceCtorEq, sgn, if_neg h0, if_pos h1]
    exact hS1
  refine wpc_if (t := false) (by simp only [↓stU, stD, Nat.reduceEqDiff, ↓reduceIte, reduceCtorEq, decide_eq_false h1]) (fun h => by cases h) (fun _ => wpc_skip ?_)
  simp only [↓stU, stD, Nat.reduceEqDiff, ↓reduceIte, reduceCtorEq]
  refine wpc_seq (wpc_reg ?_)
  simp only [↓stU, stD, Nat.reduceEqDiff, ↓reduceIte, reduceCtorEq]
  refine wpc_ret ?_
  simp only [↓stU, stD, Nat.reduceEqDiff, ↓reduceIte, reduceCtorEq, sgn, if_neg h0, if_neg h1]
  exact hS1

theorem rdiv_spec {S : St} {a b : AV} {p q : Rat} (H : Has fns) (hL : Laid S) (hF : Fresh S) (ha : RatIs S a p) (hb : RatIs S b q) (hp : InBound p) (hq : InBound q) (h0 : q.num ≠ 0) (hin : InBound (p * q⁻¹)) : wpf fns (.fn 28 [] []) [a, b] S fun r S' => ∃ v, r = .tup [v, .int .i64 0] ∧ RatIs S' v (p * q⁻¹) ∧ Same S S' := by
  obtain ⟨a0, a1, a2, rfl⟩ := ha.cells
  obtain ⟨b0, b1, b2, rfl⟩ := hb.cells
  refine wpf_fn H.f28 (by simp) ?_
  simp only [↓stU, stD, Nat.reduceEqDiff, ↓reduceIte, reduceCtorEq]
  refine wpc_seq (wpc_reg ?_)
  refine wpo_boxF (by simp only [↓stU, stD, Nat.reduceEqDiff, ↓reduceIte, reduceCtorEq, cells_agg]; rfl) ?_
  intro S1 hS1 hn1 hc1 fr1
  refine wpo_boxF (by simp only [↓stU, stD, Nat.reduceEqDiff, ↓reduceIte, reduceCtorEq, cells_agg]; rfl) ?_
  intro S2 hS2 hn2 hc2 fr2
  refine wpo_allocF ?_
  intro S3 hS3 hn3 hc3 fr3
  simp only [↓stU, stD, Nat.reduceEqDiff, ↓reduceIte, reduceCtorEq]
  have g1 : S3.h.get S.nx = some (.cells [a0, a1, a2] false 0) := by rw [hS3.2 _ (by omega), hS2.2 _ (by omega)]; exact hc1
  have g2 : S3.h.get S1.nx = some (.cells [b0, b1, b2] false 0) := by rw [hS3.2 _ (by omega)]; exact hc2
  have hS := hS1.trans (hS2.trans hS3)
  refine wpc_seq (wpc_seq (wpc_reg ?_))
  simp only [↓stU, stD, Nat.reduceEqDiff, ↓reduceIte, reduceCtorEq, ld3 g1, ld3 g2]
  refine wpo_call ?_
  simp only [↓stU, stD, Nat.reduceEqDiff, ↓reduceIte, reduceCtorEq]
  refine wpf_mono (wpf_fresh (both_ok H (hL.same hS) (ha.same hS) (hb.same hS) hp hq)) ?_
  rintro _ S4 ⟨⟨rfl, hS4⟩, fr4⟩
  try simp only [↓stU, stD, Nat.reduceEqDiff, ↓reduceIte, reduceCtorEq]
  refine wpc_seq (wpc_reg ?_)
  simp only [↓stU, stD, Nat.reduceEqDiff, ↓reduceIte, reduceCtorEq]
  refine wpc_if (t := false) (by simp only [↓stU, stD, Nat.reduceEqDiff, ↓reduceIte, reduceCtorEq]; rfl) (fun h => by cases h) (fun _ => wpc_skip ?_)
  simp only [↓stU, stD, Nat.reduceEqDiff, ↓reduceIte, reduceCtorEq]
  have g2' : S4.h.get S1.nx = some (.cells [b0, b1, b2] false 0) := by rw [hS4.2 _ (by omega)]; exact g2
  refine wpc_seq (wpc_seq (wpc_reg ?_))
  simp only [↓stU, stD, Nat.reduceEqDiff, ↓reduceIte, reduceCtorEq, ld3 g2']
  refine wpo_call ?_
  simp only [↓stU, stD, Nat.reduceEqDiff, ↓reduceIte, reduceCtorEq]
  refine wpf_mono (wpf_fresh (signOf_spec H (hb.same (hS.trans hS4)))) ?_
  rintro _ S8 ⟨⟨rfl, hS8⟩, fr8⟩
  simp only [↓stU, stD, Nat.reduceEqDiff, ↓reduceIte, reduceCtorEq]
  have hsg : decide (sgn q = 1) = false := by unfold sgn; rw [if_neg h0]; split <;> rfl
  refine wpc_if (t := false) (by simp only [↓stU, stD, Nat.reduceEqDiff, ↓reduceIte, reduceCtorEq, hsg]) (fun h => by cases h) (fun _ => wpc_skip ?_)
  simp only [↓stU, stD, Nat.reduceEqDiff, ↓reduceIte, reduceCtorEq]
  have hF8 : Fresh S8 := fr8.1 (fr4.1 (fr3.1 (fr2.1 (fr1.1 hF))))
  have h38 := hS4.trans hS8
  have hS8' := hS.trans h38
  have k1 : S8.h.get S.nx = some (.cells [a0, a1, a2] false 0) := by rw [h38.2 _ (by omega)]; exact g1
  have k2 : S8.h.get S1.nx = some (.cells [b0, b1, b2] false 0) := by rw [h38.2 _ (by omega)]; exact g2
  have k3 : S8.h.get S2.nx = some (.cells [.bool false, .nilsl, .nilsl] false 0) := by rw [h38.2 _ (by omega)]; exact hc3
  have hl8 := h38.1
  have lt1 : S.nx < S8.nx := by omega
  have lt2 : S1.nx < S8.nx := by omega
  have ne1 : ¬ S.nx = S2.nx := by omega
  have ne2 : ¬ S1.nx = S2.nx := by omega
  refine wpc_seq (wpc_drd2 (fun c => c = S2.nx) ?_)
  intro S9 hS9 he9 hn9
  simp only [List.length_cons, List.length_nil, Nat.reduceAdd] at hn9
  simp only [↓stU, stD, Nat.reduceEqDiff, ↓reduceIte, reduceCtorEq, ↓stV, stW, Nat.reduceAdd, ld3 k1, ld3 k2, lt1, lt2, ne1, ne2, not_false_eq_true, self_rat ha, self_rat hb]
  refine runD_call0 rfl ?_
  try simp only [↓stU, stD, Nat.reduceEqDiff, ↓reduceIte, reduceCtorEq, ↓stV, stW, Nat.reduceAdd]
  have hS9' := hS8'.trans hS9
  refine wpf_mono (inverse_spec H (hb.same hS9') hq.half.fits h0) ?_
  rintro nvv S10 ⟨hnv, hS10⟩
  refine ⟨hS10, ?_⟩
  obtain ⟨n0, n1, n2, rfl⟩ := hnv.cells
  simp only [↓stU, stD, Nat.reduceEqDiff, ↓reduceIte, reduceCtorEq, ↓stV, stW, Nat.reduceAdd, evQ_b6, join6_eq, isLoad_build, evA_bs1, bs1_eq]
  have hnone : S10.h.get (S8.nx + 4) = none := by rw [hS10.2 _ (by omega), he9]; exact hF8 _ (by omega)
  refine runD_call1 (by rfl) rfl ?_
  intro S11 hS11 hn11 hc11
  try simp only [↓stU, stD, Nat.reduceEqDiff, ↓reduceIte, reduceCtorEq, ↓stV, stW, Nat.reduceAdd]
  have h810 := hS9.trans hS10
  have h811 : Same S8 S11 := hS11.same h810 (by omega)
  have hS11' := hS8'.trans h811
  have pr0 : PairAt S11 (S8.nx + 4) 0 p q⁻¹ := ⟨a0, a1, a2, n0, n1, n2, fun T hT => by rw [hc11] at hT; simp only [qLdV, loadV, bsel_true, loadN, cellsAt, hT, osel_some, cellsOfB]; rfl, ha.same hS11', hnv.lay hnone hS11⟩
  have hnq : InBound q⁻¹ := Bnd.inv (i := 1024) hq h0
  have hl10 := hS10.1
  refine wpf_mono (total1 H (hL.same hS11') (by omega) pr0 hp hnq hin) ?_
  rintro _ S12 ⟨v, rfl, hv, hS12⟩
  refine ⟨hS12, ?_⟩
  obtain ⟨c0, c1, c2, rfl⟩ := hv.cells
  simp only [↓stU, stD, Nat.reduceEqDiff, ↓reduceIte, reduceCtorEq, ↓stV, stW, Nat.reduceAdd, ex0, ex1]
  have k12 : S12.h.get S2.nx = some (.cells [.bool false, .nilsl, .nilsl] false 0) := by rw [hS12.2 _ (by omega), h811.2 _ (by omega)]; exact k3
  refine runD_st0 (b := S2.nx) rfl (by simp only [↓stU, stD, Nat.reduceEqDiff, ↓reduceIte, reduceCtorEq, ↓stV, stW, Nat.reduceAdd]) (by simp only [↓stU, stD, Nat.reduceEqDiff, ↓reduceIte, reduceCtorEq, ↓stV, stW, Nat.reduceAdd, cells_agg]; rfl) k12 rfl rfl rfl ?_
  intro S13 hS13 hn13 hb13
  try simp only [↓stU, stD, Nat.reduceEqDiff, ↓reduceIte, reduceCtorEq, ↓stV, stW, Nat.reduceAdd]
  refine wpc_ret ?_
  simp only [↓stU, stD, Nat.reduceEqDiff, ↓reduceIte, reduceCtorEq, ↓stV, stW, Nat.reduceAdd, results_cell, ld3 hb13]
  exact ⟨_, rfl, hv.st k12 rfl hS13 hb13, hS13.same (hS11'.trans hS12) (by omega)⟩
end Go.Ev.Gl

namespace Go.Ev.Gl
variable {fns : T AFn}

/-! ## The statements' own tools -/
theorem bin_rem_nat (e : EqT) (k : IntKind) {t d : Nat} (hd : 0 < d) : binV .rem e (.int k ((t : Nat) : Int)) (.int k ((d : Nat) : Int)) = some (.int k ((t % d : Nat) : Int)) := by
  show intsBin .rem k (Int.ofNat t) k (Int.ofNat d) = _
  unfold intsBin
  rw [show isShift .rem = false from rfl, bsel_false, keq_refl, bsel_true]
  show bsel (Nat.beq d 0) none (some (AV.int k (.ofNat (t % d)))) = _
  have h0 : Nat.beq d 0 = false := by rw [Bool.eq_false_iff]; intro h; rw [Nat.beq_eq] at h; omega
  rw [h0, bsel_false]
  rfl
theorem bin_rem_any (e : EqT) {a b : Int} (hb : b ≠ 0) : ∃ z, binV .rem e (.int .i64 a) (.int .i64 b) = some (.int .i64 z) := by
  show ∃ z, intsBin .rem .i64 a .i64 b = _
  unfold intsBin
  rw [show isShift .rem = false from rfl, bsel_false, keq_refl, bsel_true]
  show ∃ z, iRem .i64 a b = _
  unfold iRem
  split
  · rename_i m n
    have h0 : Nat.beq n 0 = false := by
      rw [Bool.eq_false_iff]; intro h; rw [Nat.beq_eq] at h; subst h; exact hb rfl
    rw [h0, bsel_false]
    exact ⟨_, rfl⟩
  · have h0 : ieq b (.ofNat 0) = false := by
      rw [Bool.eq_false_iff]; intro h; rw [ieq_eq] at h; exact hb (by simpa using h)
    rw [h0, bsel_false]
    exact ⟨_, rfl⟩

theorem mod_spec {S : St} {a b : Int} (H : Has fns) (hb : b ≠ 0) : wpf fns (.fn 34 [] []) [.int .i64 a, .int .i64 b] S fun r S' => (∃ z, r = .int .i64 z) ∧ S' = S := by
  obtain ⟨z, hz⟩ := bin_rem_any (.p .int) (a := a) hb
  refine wpf_fn H.f34 (by simp) ?_
  simp only [↓stU, stD, Nat.reduceEqDiff, ↓reduceIte, reduceCtorEq]
  refine wpc_seq (wpc_reg ?_)
  simp only [↓stU, stD, Nat.reduceEqDiff, ↓reduceIte, reduceCtorEq]
  refine wpc_seq (wpc_reg ?_)
  simp only [↓stU, stD, Nat.reduceEqDiff, ↓reduceIte, reduceCtorEq, hz]
  refine wpc_seq (wpc_seq (wpc_reg ?_))
  simp only [↓stU, stD, Nat.reduceEqDiff, ↓reduceIte, reduceCtorEq]
  by_cases h0 : z < 0
  · refine wpc_if (t := true) (by simp only [↓stU, stD, Nat.reduceEqDiff, ↓reduceIte, reduceCtorEq, decide_eq_true h0]) (fun _ => wpc_reg ?_) (fun h => by cases h)
    simp only [↓stU, stD, Nat.reduceEqDiff, ↓reduceIte, reduceCtorEq]
    refine wpc_seq (wpc_reg ?_)
    simp only [↓stU, stD, Nat.reduceEqDiff, ↓reduceIte, reduceCtorEq]
    refine wpc_ret ?_
    simp only [↓stU, stD, Nat.reduceEqDiff, ↓reduceIte, reduceCtorEq]
    exact ⟨_, rfl⟩
  · refine wpc_if (t := false) (by simp only [↓stU, stD, Nat.reduceEqDiff, ↓reduceIte, reduceCtorEq, decide_eq_false h0]) (fun h => by cases h) (fun _ => wpc_skip ?_)
    simp only [↓stU, stD, Nat.reduceEqDiff, ↓reduceIte, reduceCtorEq]
    refine wpc_seq (wpc_reg ?_)
    simp only [↓stU, stD, Nat.reduceEqDiff, ↓reduceIte, reduceCtorEq]
    refine wpc_ret ?_
    simp only [↓stU, stD, Nat.reduceEqDiff, ↓reduceIte, reduceCtorEq]
    exact ⟨_, rfl⟩

def AlikeI (S : St) (a b : AV) (l m : List Nat) (k : Nat) (A : Act') (S' : St) : Prop :=
  A.inr = false ∧ S'.h = S.h ∧ S.nx ≤ S'.nx ∧ ∃ i : Nat, i + k = l.length ∧ tmpV 0 A.F = a ∧ tmpV 1 A.F = b ∧ tmpV 5 A.F = .int .i64 (i : Int) ∧ l.take i = m.take i

theorem same_of_h {S S' : St} (h1 : S'.h = S.h) (h2 : S.nx ≤ S'.nx) : Same S S' := ⟨h2, fun _ _ => by rw [h1]⟩

theorem alike_spec {S : St} {a b : AV} {l m : List Nat} (H : Has fns) (ha : LimbIs S a l) (hb : LimbIs S b m) (hl : l.length ≤ 1000000) : wpf fns (.fn 38 [] []) [a, b] S fun r S' => r = .bool (decide (l = m)) ∧ Same S S' := by
  refine wpf_fn H.f38 (by simp) ?_
  simp only [↓stU, stD, Nat.reduceEqDiff, ↓reduceIte, reduceCtorEq]
  refine wpc_seq (wpc_reg ?_)
  simp only [↓stU, stD, Nat.reduceEqDiff, ↓reduceIte, reduceCtorEq]
  refine wpc_seq (wpc_seq (wpc_reg ?_))
  simp only [↓stU, stD, Nat.reduceEqDiff, ↓reduceIte, reduceCtorEq, ha.len, hb.len]
  by_cases hlen : l.length = m.length
  · refine wpc_if (t := false) (by simp only [↓stU, stD, Nat.reduceEqDiff, ↓reduceIte, reduceCtorEq, decide_eq_false (show ¬ ((l.length : Nat) : Int) ≠ ((m.length : Nat) : Int) by omega)]) (fun h => by cases h) (fun _ => wpc_skip ?_)
    simp only [↓stU, stD, Nat.reduceEqDiff, ↓reduceIte, reduceCtorEq]
    refine wpc_seq (wpc_seq (wpc_reg ?_))
    simp only [↓stU, stD, Nat.reduceEqDiff, ↓reduceIte, reduceCtorEq]
    refine wpc_mono (Q := fun o A' S' => Same S S' ∧ ((o = .normal ∧ l = m) ∨ (o = .ret ∧ tmpV 4 A'.F = .bool false ∧ l ≠ m))) ?_ ?_
    · refine wpc_block (wpc_loop (AlikeI S a b l m) ?_ l.length _ _ ⟨rfl, rfl, Nat.le_refl _, 0, by omega, by simp only [↓stU, stD, Nat.reduceEqDiff, ↓reduceIte, reduceCtorEq], by simp only [↓stU, stD, Nat.reduceEqDiff, ↓reduceIte, reduceCtorEq], by simp only [↓stU, stD, Nat.reduceEqDiff, ↓reduceIte, reduceCtorEq], by simp⟩)
      rintro k ⟨F, inr⟩ S' ⟨q0, hh, hnx, i, hik, p0, p1, p5, htk⟩
      simp only at q0 p0 p1 p5
      subst q0
      have hS := same_of_h hh hnx
      have ha' := ha.same hS
      have hb' := hb.same hS
      refine wpc_seq (wpc_seq (wpc_reg ?_))
      simp only [↓stU, stD, Nat.reduceEqDiff, ↓reduceIte, reduceCtorEq, p0, p5, ha.len]
      by_cases hi : i < l.length
      · refine wpc_if (t := true) (by simp only [↓stU, stD, Nat.reduceEqDiff, ↓reduceIte, reduceCtorEq, decide_eq_true (show (i : Int) < ((l.length : Nat) : Int) by omega)]) (fun _ => wpc_skip ?_) (fun h => by cases h)
        simp only [↓stU, stD, Nat.reduceEqDiff, ↓reduceIte, reduceCtorEq]
        have l1 := ha'.ld hi
        have l2 := hb'.ld (i := i) (by omega)
        rw [List.getD_eq_getElem?_getD] at l1 l2
        have t1 : l.take (i + 1) = l.take i ++ [l[i]?.getD 0] := by rw [List.take_add_one, List.getElem?_eq_getElem hi]; rfl
        have t2 : m.take (i + 1) = m.take i ++ [m[i]?.getD 0] := by rw [List.take_add_one, List.getElem?_eq_getElem (by omega : i < m.length)]; rfl
        refine wpc_seq (wpc_block (wpc_seq (wpc_drq ?_)))
        simp only [↓stU, stD, Nat.reduceEqDiff, ↓reduceIte, reduceCtorEq, ↓stV, stW, Nat.reduceAdd, p0, p1, p5, ha.iaddr hi, hb.iaddr (show i < m.length by omega), l1, l2]
        by_cases hxy : l[i]?.getD 0 = m[i]?.getD 0
        · refine wpc_if (t := false) (by simp only [↓stU, stD, Nat.reduceEqDiff, ↓reduceIte, reduceCtorEq, hxy]; simp) (fun h => by cases h) (fun _ => wpc_skip ?_)
          simp only [↓stU, stD, Nat.reduceEqDiff, ↓reduceIte, reduceCtorEq]
          refine wpc_reg ?_
          have w1 : IntKind.i64.wrap ((i : Int) + 1) = ((i + 1 : Nat) : Int) := by rw [wrap_i64 (by omega) (by omega)]; omega
          simp only [↓stU, stD, Nat.reduceEqDiff, ↓reduceIte, reduceCtorEq, p5, w1]
          exact ⟨k - 1, by omega, rfl, hh, by simp; omega, i + 1, by omega, by simp only [↓stU, stD, Nat.reduceEqDiff, ↓reduceIte, reduceCtorEq, p0], by simp only [↓stU, stD, Nat.reduceEqDiff, ↓reduceIte, reduceCtorEq, p1], by simp only [↓stU, stD, Nat.reduceEqDiff, ↓reduceIte, reduceCtorEq], by rw [t1, t2, htk, hxy]⟩
        · refine wpc_if (t := true) (by simp only [↓stU, stD, Nat.reduceEqDiff, ↓reduceIte, reduceCtorEq]; simp; omega) (fun _ => ?_) (fun h => by cases h)
          refine wpc_seq (wpc_reg ?_)
          simp only [↓stU, stD, Nat.reduceEqDiff, ↓reduceIte, reduceCtorEq]
          refine wpc_ret ?_
          simp only [↓stU, stD, Nat.reduceEqDiff, ↓reduceIte, reduceCtorEq]
          exact ⟨hS.trans (Same.nx S' _), .inr (by rintro rfl; exact hxy rfl)⟩
      · refine wpc_if (t := false) (by simp only [↓stU, stD, Nat.reduceEqDiff, ↓reduceIte, reduceCtorEq, decide_eq_false (show ¬ (i : Int) < ((l.length : Nat) : Int) by omega)]) (fun h => by cases h) (fun _ => wpc_exit ?_)
        simp only [↓stU, stD, Nat.reduceEqDiff, ↓reduceIte, reduceCtorEq]
        rw [List.take_of_length_le (by omega), List.take_of_length_le (by omega)] at htk
        exact ⟨hS, .inl htk⟩
    rintro o ⟨F, inr⟩ S' ⟨hS, ⟨rfl, he⟩ | ⟨rfl, p4, hne⟩⟩
    · simp only [↓stU, stD, Nat.reduceEqDiff, ↓reduceIte, reduceCtorEq]
      refine wpc_seq (wpc_reg ?_)
      simp only [↓stU, stD, Nat.reduceEqDiff, ↓reduceIte, reduceCtorEq]
      refine wpc_ret ?_
      simp only [↓stU, stD, Nat.reduceEqDiff, ↓reduceIte, reduceCtorEq, decide_eq_true he]
      exact hS
    · simp only at p4
      simp only [↓stU, stD, Nat.reduceEqDiff, ↓reduceIte, reduceCtorEq, p4, decide_eq_false hne]
      exact hS
  · refine wpc_if (t := true) (by simp only [↓stU, stD, Nat.reduceEqDiff, ↓reduceIte, reduceCtorEq, decide_eq_true (show ((l.length : Nat) : Int) ≠ ((m.length : Nat) : Int) by omega)]) (fun _ => ?_) (fun h => by cases h)
    refine wpc_seq (wpc_reg ?_)
    simp only [↓stU, stD, Nat.reduceEqDiff, ↓reduceIte, reduceCtorEq]
    refine wpc_ret ?_
    have : ¬ l = m := by rintro rfl; exact hlen rfl
    simp only [↓stU, stD, Nat.reduceEqDiff, ↓reduceIte, reduceCtorEq, decide_eq_false this]
    exact Same.refl _

theorem alike_nat {S : St} {a b : AV} {x y : Nat} (H : Has fns) (ha : NatIs S a x) (hb : NatIs S b y) (hx : Fits x) : wpf fns (.fn 38 [] []) [a, b] S fun r S' => r = .bool (decide (x = y)) ∧ Same S S' := by
  obtain ⟨l, h1, h2, h3⟩ := ha
  obtain ⟨m, k1, k2, k3⟩ := hb
  have := Fits.len h2 (by rw [h3]; exact hx)
  refine wpf_mono (alike_spec H h1 k1 (by omega)) ?_
  rintro r S' ⟨rfl, hS⟩
  refine ⟨?_, hS⟩
  congr 1
  apply decide_eq_decide.2
  rw [← h3, ← k3]
  exact ⟨fun h => by rw [h], fun h => norm_inj h2 k2 h⟩

theorem rat_eq_iff (p q : Rat) : p = q ↔ (decide (p.num < 0) = decide (q.num < 0)) ∧ p.num.natAbs = q.num.natAbs ∧ p.den = q.den := by
  constructor
  · rintro rfl; exact ⟨rfl, rfl, rfl⟩
  · rintro ⟨h1, h2, h3⟩
    have : p.num = q.num := by rw [← sg_num p, ← sg_num q, h1, h2]
    exact Rat.ext this h3

theorem sameRat_spec {S : St} {a b : AV} {p q : Rat} (H : Has fns) (ha : RatIs S a p) (hb : RatIs S b q) (hp : FitsR p) : wpf fns (.fn 14 [] []) [a, b] S fun r S' => r = .bool (decide (p = q)) ∧ Same S S' := by
  obtain ⟨nv, dv, rfl, h1, h2⟩ := ha
  obtain ⟨mv, ev, rfl, h3, h4⟩ := hb
  refine wpf_fn H.f14 (by simp) ?_
  simp only [↓stU, stD, Nat.reduceEqDiff, ↓reduceIte, reduceCtorEq]
  refine wpc_seq (wpc_reg ?_)
  refine wpo_box (by simp only [↓stU, stD, Nat.reduceEqDiff, ↓reduceIte, reduceCtorEq, cells_agg]; rfl) ?_
  intro S1 hS1 hn1 hb1
  refine wpo_box (by simp only [↓stU, stD, Nat.reduceEqDiff, ↓reduceIte, reduceCtorEq, cells_agg]; rfl) ?_
  intro S2 hS2 hn2 hb2
  simp only [↓stU, stD, Nat.reduceEqDiff, ↓reduceIte, reduceCtorEq]
  have hS := hS1.trans hS2
  have g1 : S2.h.get S.nx = some (.cells [.bool (decide (p.num < 0)), nv, dv] false 0) := by rw [hS2.2 _ (by omega)]; exact hb1
  have hpq := rat_eq_iff p q
  refine wpc_seq (wpc_mono (Q := fun o A' S' => o = .normal ∧ Same S S' ∧ tmpV 4 A'.F = .bool (decide (p = q))) ?_ ?_)
  · refine wpc_reg ?_
    by_cases e1 : decide (p.num < 0) = decide (q.num < 0)
    · simp only [↓stU, stD, Nat.reduceEqDiff, ↓reduceIte, reduceCtorEq, evQ_faddr, faddr_ptr, ld3_0 g1, ld3_0 hb2, ld3_1 g1, ld3_1 hb2, eq_bool, e1, beq_self_eq_true]
      refine wpo_call ?_
      simp only [↓stU, stD, Nat.reduceEqDiff, ↓reduceIte, reduceCtorEq]
      refine wpf_mono (alike_nat H (h1.same hS) (h3.same hS) hp.1) ?_
      rintro _ S3 ⟨rfl, hS3⟩
      have g1' : S3.h.get S.nx = some (.cells [.bool (decide (p.num < 0)), nv, dv] false 0) := by rw [hS3.2 _ (by omega)]; exact g1
      have g2' : S3.h.get S1.nx = some (.cells [.bool (decide (q.num < 0)), mv, ev] false 0) := by rw [hS3.2 _ (by omega)]; exact hb2
      by_cases e2 : p.num.natAbs = q.num.natAbs
      · simp only [↓stU, stD, Nat.reduceEqDiff, ↓reduceIte, reduceCtorEq, decide_eq_true e2, evQ_faddr, faddr_ptr, ld3_2 g1', ld3_2 g2']
        refine wpo_call ?_
        simp only [↓stU, stD, Nat.reduceEqDiff, ↓reduceIte, reduceCtorEq]
        refine wpf_mono (alike_nat H (h2.same (hS.trans hS3)) (h4.same (hS.trans hS3)) hp.2) ?_
        rintro _ S4 ⟨rfl, hS4⟩
        try simp only [↓stU, stD, Nat.reduceEqDiff, ↓reduceIte, reduceCtorEq]
        refine ⟨hS.trans (hS3.trans hS4), ?_⟩
        congr 1
        exact decide_eq_decide.2 ⟨fun h => hpq.2 ⟨e1, e2, h⟩, fun h => by rw [h]⟩
      · simp only [↓stU, stD, Nat.reduceEqDiff, ↓reduceIte, reduceCtorEq, decide_eq_false e2]
        refine ⟨hS.trans hS3, ?_⟩
        rw [decide_eq_false (fun h => e2 (hpq.1 h).2.1)]
    · have : (decide (p.num < 0) == decide (q.num < 0)) = false := by simpa using e1
      simp only [↓stU, stD, Nat.reduceEqDiff, ↓reduceIte, reduceCtorEq, evQ_faddr, faddr_ptr, ld3_0 g1, ld3_0 hb2, eq_bool, this]
      refine ⟨hS, ?_⟩
      rw [decide_eq_false (fun h => e1 (hpq.1 h).1)]
  · rintro o ⟨F, inr⟩ S' ⟨rfl, hS, p4⟩
    simp only at p4
    simp only [↓stU, stD, Nat.reduceEqDiff, ↓reduceIte, reduceCtorEq]
    refine wpc_ret ?_
    simp only [↓stU, stD, Nat.reduceEqDiff, ↓reduceIte, reduceCtorEq, p4]
    exact hS
end Go.Ev.Gl

namespace Go.Ev.Gl
variable {fns : T AFn}

def LimbsI (S : St) (v : AV) (l : List Nat) (k : Nat) (A : Act') (S' : St) : Prop :=
  A.inr = false ∧ ∃ (i : Nat) (d : List Nat) (u : AV), i + k = l.length ∧ d.length = i ∧ tmpV 0 A.F = v ∧ tmpV 3 A.F = u ∧ tmpV 4 A.F = .int .i64 (i : Int) ∧ GrIs S S' u d ∧ Same S S' ∧ Small d

def TrimI (S : St) (n : Nat) (k : Nat) (A : Act') (S' : St) : Prop :=
  S' = S ∧ A.inr = false ∧ ∃ u m, tmpV 3 A.F = u ∧ LimbIs S u m ∧ m.length = k ∧ Small m ∧ val m = n ∧ m.length ≤ 1000

theorem remB32 (e : EqT) (t : Nat) : binV .rem e (.int .u32 ((t : Nat) : Int)) (.int .u32 1000000000) = some (.int .u32 ((t % B : Nat) : Int)) := bin_rem_nat e .u32 B_pos

/-- Limbs makes a number of any list; how long it is -/
theorem limbs_spec {S : St} {v : AV} {l : List Nat} (H : Has fns) (h : LimbIs S v l) (hl : l.length ≤ 8) : wpf fns (.fn 78 [] []) [v] S fun r S' => ∃ n, NatIs S' r n ∧ n < B ^ 8 ∧ Same S S' := by
  refine wpf_fn H.f78 (by simp) ?_
  simp only [↓stU, stD, Nat.reduceEqDiff, ↓reduceIte, reduceCtorEq]
  refine wpc_seq (wpc_reg ?_)
  simp only [↓stU, stD, Nat.reduceEqDiff, ↓reduceIte, reduceCtorEq]
  refine wpc_seq (wpc_reg ?_)
  simp only [↓stU, stD, Nat.reduceEqDiff, ↓reduceIte, reduceCtorEq]
  refine wpc_seq (wpc_seq (wpc_reg ?_))
  simp only [↓stU, stD, Nat.reduceEqDiff, ↓reduceIte, reduceCtorEq]
  refine wpc_mono (Q := fun o A' S' => o = .normal ∧ LimbsI S v l 0 A' S') ?_ ?_
  · refine wpc_block (wpc_loop (LimbsI S v l) ?_ l.length _ _ ⟨rfl, 0, [], .nilsl, by omega, rfl, by simp only [↓stU, stD, Nat.reduceEqDiff, ↓reduceIte, reduceCtorEq], by simp only [↓stU, stD, Nat.reduceEqDiff, ↓reduceIte, reduceCtorEq], by simp only [↓stU, stD, Nat.reduceEqDiff, ↓reduceIte, reduceCtorEq], .inl ⟨rfl, rfl⟩, Same.refl _, Small.nil⟩)
    rintro k ⟨F, inr⟩ S' ⟨q0, i, d, u, hik, hd, p0, p3, p4, hg, hS, hsd⟩
    simp only at q0 p0 p3 p4
    subst q0
    have h' := h.same hS
    refine wpc_seq (wpc_seq (wpc_reg ?_))
    simp only [↓stU, stD, Nat.reduceEqDiff, ↓reduceIte, reduceCtorEq, p0, p4, h.len]
    by_cases hi : i < l.length
    · refine wpc_if (t := true) (by simp only [↓stU, stD, Nat.reduceEqDiff, ↓reduceIte, reduceCtorEq, decide_eq_true (show (i : Int) < ((l.length : Nat) : Int) by omega)]) (fun _ => wpc_skip ?_) (fun h => by cases h)
      simp only [↓stU, stD, Nat.reduceEqDiff, ↓reduceIte, reduceCtorEq]
      have hld := h'.ld hi
      rw [List.getD_eq_getElem?_getD] at hld
      have hrem := remB32 (.p .int) (l[i]?.getD 0)
      have hmod : l[i]?.getD 0 % B < B := Nat.mod_lt _ B_pos
      generalize l[i]?.getD 0 % B = r at hrem hmod
      obtain ⟨v', S2, happ, hg2, hS2⟩ := hg.app (w := r) (bytes := 4) hS (by unfold room; omega) (by unfold room; omega)
      refine wpc_seq (wpc_block (wpc_reg ?_))
      simp only [↓stU, stD, Nat.reduceEqDiff, ↓reduceIte, reduceCtorEq, ↓stV, stW, Nat.reduceAdd, p0, p3, p4, h.iaddr hi, hld, hrem]
      rw [evA_one (k := .u32) (n := (r : Int)) (by simp only [↓stU, stD, Nat.reduceEqDiff, ↓reduceIte, reduceCtorEq, ↓stV, stW, Nat.reduceAdd])]
      try simp only [↓stU, stD, Nat.reduceEqDiff, ↓reduceIte, reduceCtorEq, ↓stV, stW, Nat.reduceAdd]
      refine wpo_x (fun call => by simp only [↓stU, stD, Nat.reduceEqDiff, ↓reduceIte, reduceCtorEq, ↓stV, stW, Nat.reduceAdd, evX_app, p3]; exact happ) ?_
      try simp only [↓stU, stD, Nat.reduceEqDiff, ↓reduceIte, reduceCtorEq, ↓stV, stW, Nat.reduceAdd]
      refine wpc_reg ?_
      have w1 : IntKind.i64.wrap ((i : Int) + 1) = ((i + 1 : Nat) : Int) := by rw [wrap_i64 (by omega) (by omega)]; omega
      simp only [↓stU, stD, Nat.reduceEqDiff, ↓reduceIte, reduceCtorEq, ↓stV, stW, Nat.reduceAdd, p4, w1]
      exact ⟨k - 1, by omega, rfl, i + 1, d ++ [r], v', by omega, by simp [hd], by simp only [↓stU, stD, Nat.reduceEqDiff, ↓reduceIte, reduceCtorEq, ↓stV, stW, Nat.reduceAdd, p0], by simp only [↓stU, stD, Nat.reduceEqDiff, ↓reduceIte, reduceCtorEq, ↓stV, stW, Nat.reduceAdd], by simp only [↓stU, stD, Nat.reduceEqDiff, ↓reduceIte, reduceCtorEq, ↓stV, stW, Nat.reduceAdd], hg2, hS2, Small.append.2 ⟨hsd, small_one hmod⟩⟩
    · refine wpc_if (t := false) (by simp only [↓stU, stD, Nat.reduceEqDiff, ↓reduceIte, reduceCtorEq, decide_eq_false (show ¬ (i : Int) < ((l.length : Nat) : Int) by omega)]) (fun h => by cases h) (fun _ => wpc_exit ?_)
      simp only [↓stU, stD, Nat.reduceEqDiff, ↓reduceIte, reduceCtorEq]
      exact ⟨rfl, i, d, u, by omega, hd, by simp only [↓stU, stD, Nat.reduceEqDiff, ↓reduceIte, reduceCtorEq, p0], by simp only [↓stU, stD, Nat.reduceEqDiff, ↓reduceIte, reduceCtorEq, p3], by simp only [↓stU, stD, Nat.reduceEqDiff, ↓reduceIte, reduceCtorEq, p4], hg, hS, hsd⟩
  · rintro o ⟨F, inr⟩ S' ⟨rfl, q0, i, d, u, hik, hd, p0, p3, p4, hg, hS, hsd⟩
    simp only at q0 p0 p3 p4
    subst q0
    have hvl : val d < B ^ 8 := Nat.lt_of_lt_of_le (val_lt hsd) (Nat.pow_le_pow_right B_pos (by omega))
    simp only [↓stU, stD, Nat.reduceEqDiff, ↓reduceIte, reduceCtorEq]
    refine wpc_seq (wpc_mono (Q := fun o A' S'' => o = .normal ∧ S'' = S' ∧ A'.inr = false ∧ NatIs S' (tmpV 3 A'.F) (val d)) ?_ ?_)
    · refine wpc_block (wpc_loop (TrimI S' (val d)) ?_ d.length _ _ ⟨rfl, rfl, u, d, p3, hg.limbs, rfl, hsd, rfl, by omega⟩)
      rintro k ⟨F, inr⟩ S2 ⟨hS2, q0, u, m, h0, hu, hk, hsm, hv, hle⟩
      simp only at q0 h0
      subst q0
      rw [hS2]
      refine wpc_seq (wpc_seq (wpc_reg ?_))
      by_cases hm : m = []
      · subst hm
        simp only [↓stU, stD, Nat.reduceEqDiff, ↓reduceIte, reduceCtorEq, h0, hu.len]
        refine wpc_if (t := false) (by simp only [↓stU, stD, Nat.reduceEqDiff, ↓reduceIte, reduceCtorEq]; rfl) (fun h => by cases h) (fun _ => wpc_exit ?_)
        simp only [↓stU, stD, Nat.reduceEqDiff, ↓reduceIte, reduceCtorEq, h0]
        exact ⟨[], hu, norm_nil, hv⟩
      · obtain ⟨m', x, rfl⟩ : ∃ m' x, m = m' ++ [x] := ⟨m.dropLast, m.getLast hm, (List.dropLast_concat_getLast hm).symm⟩
        have hL : (m' ++ [x]).length = m'.length + 1 := by simp
        have hlt : m'.length < (m' ++ [x]).length := by omega
        have hlen' := hu.len
        rw [hL] at hlen'
        have w1 : IntKind.i64.wrap (((m'.length + 1 : Nat) : Int) - 1) = (m'.length : Int) := by rw [wrap_i64 (by omega) (by omega)]; omega
        have e2 : (m' ++ [x]).getD m'.length 0 = x := by simp
        have hld := hu.ld hlt
        rw [e2] at hld
        simp only [↓stU, stD, Nat.reduceEqDiff, ↓reduceIte, reduceCtorEq, h0, hlen', decide_eq_true (show (0 : Int) < ((m'.length + 1 : Nat) : Int) by omega), w1, hu.iaddr hlt, hld]
        by_cases hx : x = 0
        · subst hx
          refine wpc_if (t := true) (by simp only [↓stU, stD, Nat.reduceEqDiff, ↓reduceIte, reduceCtorEq]; rfl) (fun _ => wpc_skip ?_) (fun h => by cases h)
          simp only [↓stU, stD, Nat.reduceEqDiff, ↓reduceIte, reduceCtorEq]
          refine wpc_block (wpc_reg ?_)
          have hh := hu.head hlt
          rw [List.take_left' rfl] at hh
          simp only [↓stU, stD, Nat.reduceEqDiff, ↓reduceIte, reduceCtorEq, h0, hlen', w1]
          rw [hu.slc hlt (by simp only [↓stU, stD, Nat.reduceEqDiff, ↓reduceIte, reduceCtorEq])]
          simp only [↓stU, stD, Nat.reduceEqDiff, ↓reduceIte, reduceCtorEq]
          refine ⟨m'.length, by omega, rfl, rfl, _, m', by simp only [↓stU, stD, Nat.reduceEqDiff, ↓reduceIte, reduceCtorEq], hh, rfl, (Small.append.1 hsm).1, ?_, by omega⟩
          rw [← hv, val_snoc, Nat.mul_zero, Nat.add_zero]
        · refine wpc_if (t := false) (by simp only [↓stU, stD, Nat.reduceEqDiff, ↓reduceIte, reduceCtorEq, decide_eq_false (show ¬ ((x : Nat) : Int) = 0 by omega)]) (fun h => by cases h) (fun _ => wpc_exit ?_)
          simp only [↓stU, stD, Nat.reduceEqDiff, ↓reduceIte, reduceCtorEq, h0]
          exact ⟨m' ++ [x], hu, ⟨hsm, by simp [hx]⟩, hv⟩
    rintro o ⟨F, inr⟩ S2 ⟨rfl, hS2, q0, hN⟩
    simp only at q0 hN
    subst q0
    rw [hS2]
    simp only [↓stU, stD, Nat.reduceEqDiff, ↓reduceIte, reduceCtorEq]
    refine wpc_seq (wpc_reg ?_)
    simp only [↓stU, stD, Nat.reduceEqDiff, ↓reduceIte, reduceCtorEq]
    refine wpc_ret ?_
    simp only [↓stU, stD, Nat.reduceEqDiff, ↓reduceIte, reduceCtorEq]
    exact ⟨val d, hN, hvl, hS⟩

def NatOfI (S : St) (n : Nat) (k : Nat) (A : Act') (S' : St) : Prop :=
  A.inr = false ∧ ∃ (d : List Nat) (v : AV), tmpV 0 A.F = .int .i64 (k : Int) ∧ k ≤ n ∧ tmpV 3 A.F = v ∧ GrIs S S' v d ∧ Same S S' ∧ Small d ∧ val d + B ^ d.length * k = n ∧ (d = [] ∨ B ^ (d.length - 1) ≤ n)

theorem natOf_spec {S : St} {n : Nat} (H : Has fns) (hn : n ≤ 9223372036854775807) : wpf fns (.fn 61 [] []) [.int .i64 (n : Int)] S fun r S' => NatIs S' r n ∧ Same S S' := by
  refine wpf_fn H.f61 (by simp) ?_
  simp only [↓stU, stD, Nat.reduceEqDiff, ↓reduceIte, reduceCtorEq]
  refine wpc_seq (wpc_reg ?_)
  simp only [↓stU, stD, Nat.reduceEqDiff, ↓reduceIte, reduceCtorEq]
  refine wpc_seq (wpc_reg ?_)
  simp only [↓stU, stD, Nat.reduceEqDiff, ↓reduceIte, reduceCtorEq]
  refine wpc_seq (wpc_block (wpc_loop (NatOfI S n) ?_ n _ _ ⟨rfl, [], .nilsl, by simp only [↓stU, stD, Nat.reduceEqDiff, ↓reduceIte, reduceCtorEq], Nat.le_refl _, by simp only [↓stU, stD, Nat.reduceEqDiff, ↓reduceIte, reduceCtorEq], .inl ⟨rfl, rfl⟩, Same.refl S, Small.nil, by simp [val_nil], .inl rfl⟩))
  rintro k ⟨F, inr⟩ S' ⟨q0, d, v, p0, hk, p3, hv, hS, hsd, hinv, hlow⟩
  simp only at q0 p0 p3
  subst q0
  refine wpc_seq (wpc_seq (wpc_reg ?_))
  simp only [↓stU, stD, Nat.reduceEqDiff, ↓reduceIte, reduceCtorEq, ↓stV, stW, Nat.reduceAdd, p0]
  by_cases hk0 : 0 < k
  · refine wpc_if (t := true) (by simp only [↓stU, stD, Nat.reduceEqDiff, ↓reduceIte, reduceCtorEq, ↓stV, stW, Nat.reduceAdd, decide_eq_true (show (0 : Int) < (k : Int) by omega)]) (fun _ => wpc_skip ?_) (fun h => by cases h)
    try simp only [↓stU, stD, Nat.reduceEqDiff, ↓reduceIte, reduceCtorEq, ↓stV, stW, Nat.reduceAdd]
    have hquo := bin_quo_i (.p .int) (a := (k : Int)) (b := 1000000000) (by omega) (by omega) (by decide)
    rw [show (k : Int) / 1000000000 = ((k / B : Nat) : Int) from rfl] at hquo
    have hrem := bin_rem_nat (.p .int) .i64 (t := k) (d := B) B_pos
    rw [show ((B : Nat) : Int) = 1000000000 from rfl] at hrem
    have hdm : k / B * B + k % B = k := by rw [Nat.mul_comm]; exact Nat.div_add_mod k B
    have hmod : k % B < 1000000000 := Nat.mod_lt k B_pos
    have hdiv : k / B < k := Nat.div_lt_self hk0 (by decide)
    have hpow : B ^ d.length ≤ n := by
      have : B ^ d.length * 1 ≤ B ^ d.length * k := Nat.mul_le_mul_left _ hk0
      omega
    have hdl : d.length ≤ 100 := by
      rcases Nat.lt_or_ge 100 d.length with h | h
      · have h1 : B ^ 3 ≤ B ^ d.length := Nat.pow_le_pow_right B_pos (by omega)
        have h2 : (18446744073709551615 : Nat) < B ^ 3 := by decide
        omega
      · exact h
    have hstep : val d + B ^ d.length * (k % B) + B ^ (d.length + 1) * (k / B) = n := by
      rw [← hinv, Nat.pow_succ, Nat.mul_assoc, Nat.add_assoc, ← Nat.mul_add]
      congr 2
      rw [Nat.mul_comm B, Nat.add_comm]
      exact hdm
    generalize k / B = q at hdm hquo hdiv hstep
    generalize k % B = r at hdm hmod hrem hstep
    have w1 : IntKind.u32.wrap (r : Int) = (r : Int) := wrap_u32 (by omega) (by omega)
    obtain ⟨v', S2, happ, hg, hS2⟩ := hv.app (w := r) (bytes := 4) hS (by unfold room; omega) (by unfold room; omega)
    refine wpc_block (wpc_seq (wpc_reg ?_))
    simp only [↓stU, stD, Nat.reduceEqDiff, ↓reduceIte, reduceCtorEq, ↓stV, stW, Nat.reduceAdd, p0, p3, hrem, w1]
    rw [evA_one (k := .u32) (n := (r : Int)) (by simp only [↓stU, stD, Nat.reduceEqDiff, ↓reduceIte, reduceCtorEq, ↓stV, stW, Nat.reduceAdd])]
    try simp only [↓stU, stD, Nat.reduceEqDiff, ↓reduceIte, reduceCtorEq, ↓stV, stW, Nat.reduceAdd]
    refine wpo_x (fun call => by simp only [↓stU, stD, Nat.reduceEqDiff, ↓reduceIte, reduceCtorEq, ↓stV, stW, Nat.reduceAdd, evX_app, p3]; exact happ) ?_
    try simp only [↓stU, stD, Nat.reduceEqDiff, ↓reduceIte, reduceCtorEq, ↓stV, stW, Nat.reduceAdd]
    refine wpc_reg ?_
    simp only [↓stU, stD, Nat.reduceEqDiff, ↓reduceIte, reduceCtorEq, ↓stV, stW, Nat.reduceAdd, p0, hquo]
    exact ⟨q, hdiv, rfl, d ++ [r], v', by simp only [↓stU, stD, Nat.reduceEqDiff, ↓reduceIte, reduceCtorEq, ↓stV, stW, Nat.reduceAdd], by omega, by simp only [↓stU, stD, Nat.reduceEqDiff, ↓reduceIte, reduceCtorEq, ↓stV, stW, Nat.reduceAdd], hg, hS2, Small.append.2 ⟨hsd, small_one hmod⟩, by rw [val_snoc, List.length_append]; exact hstep, by right; rw [List.length_append]; exact hpow⟩
  · have hk0 : k = 0 := by omega
    subst hk0
    refine wpc_if (t := false) (by simp only [↓stU, stD, Nat.reduceEqDiff, ↓reduceIte, reduceCtorEq, ↓stV, stW, Nat.reduceAdd]; rfl) (fun h => by cases h) (fun _ => wpc_exit ?_)
    try simp only [↓stU, stD, Nat.reduceEqDiff, ↓reduceIte, reduceCtorEq, ↓stV, stW, Nat.reduceAdd]
    refine wpc_seq (wpc_reg ?_)
    simp only [↓stU, stD, Nat.reduceEqDiff, ↓reduceIte, reduceCtorEq, ↓stV, stW, Nat.reduceAdd, p3]
    refine wpc_ret ?_
    try simp only [↓stU, stD, Nat.reduceEqDiff, ↓reduceIte, reduceCtorEq, ↓stV, stW, Nat.reduceAdd]
    refine ⟨⟨d, hv.limbs, norm_of_low hsd ?_, by simpa using hinv⟩, hS⟩
    rcases hlow with h | h
    · exact .inl h
    · right
      simp at hinv
      omega

def KgI (S : St) (g : Nat) (k : Nat) (A : Act') (S' : St) : Prop :=
  A.inr = false ∧ S'.h = S.h ∧ S.nx ≤ S'.nx ∧ ∃ a b : Nat, tmpV 0 A.F = .int .i64 (a : Int) ∧ tmpV 1 A.F = .int .i64 (b : Int) ∧ a ≤ 9223372036854775807 ∧ b ≤ 9223372036854775807 ∧ Nat.gcd a b = g ∧ k = b

theorem kgcd_spec {S : St} {x y : Nat} (H : Has fns) (hx : x ≤ 9223372036854775807) (hy : y ≤ 9223372036854775807) : wpf fns (.fn 60 [] []) [.int .i64 (x : Int), .int .i64 (y : Int)] S fun r S' => r = .int .i64 ((Nat.gcd x y : Nat) : Int) ∧ Same S S' := by
  refine wpf_fn H.f60 (by simp) ?_
  try simp only [↓stU, stD, Nat.reduceEqDiff, ↓reduceIte, reduceCtorEq, ↓stV, stW, Nat.reduceAdd]
  refine wpc_seq (wpc_reg ?_)
  try simp only [↓stU, stD, Nat.reduceEqDiff, ↓reduceIte, reduceCtorEq, ↓stV, stW, Nat.reduceAdd]
  refine wpc_seq (wpc_mono (Q := fun o A' S' => o = .normal ∧ Same S S' ∧ tmpV 0 A'.F = .int .i64 ((Nat.gcd x y : Nat) : Int) ∧ Nat.gcd x y ≤ 9223372036854775807) ?_ ?_)
  · refine wpc_block (wpc_loop (KgI S (Nat.gcd x y)) ?_ y _ _ ⟨rfl, rfl, Nat.le_refl _, x, y, by simp only [↓stU, stD, Nat.reduceEqDiff, ↓reduceIte, reduceCtorEq, ↓stV, stW, Nat.reduceAdd], by simp only [↓stU, stD, Nat.reduceEqDiff, ↓reduceIte, reduceCtorEq, ↓stV, stW, Nat.reduceAdd], hx, hy, rfl, rfl⟩)
    rintro k ⟨F, inr⟩ S' ⟨q0, hh, hnx, a, b, p0, p1, ha, hb, hg, rfl⟩
    simp only at q0 p0 p1
    subst q0
    refine wpc_seq (wpc_seq (wpc_reg ?_))
    simp only [↓stU, stD, Nat.reduceEqDiff, ↓reduceIte, reduceCtorEq, ↓stV, stW, Nat.reduceAdd, p1]
    rcases Nat.eq_zero_or_pos k with h0 | hkp
    · subst h0
      refine wpc_if (t := false) (by simp only [↓stU, stD, Nat.reduceEqDiff, ↓reduceIte, reduceCtorEq, ↓stV, stW, Nat.reduceAdd]; rfl) (fun h => by cases h) (fun _ => wpc_exit ?_)
      rw [Nat.gcd_zero_right] at hg
      rw [← hg]
      simp only [↓stU, stD, Nat.reduceEqDiff, ↓reduceIte, reduceCtorEq, ↓stV, stW, Nat.reduceAdd, p0]
      exact ⟨same_of_h hh hnx, ha⟩
    · refine wpc_if (t := true) (by simp only [↓stU, stD, Nat.reduceEqDiff, ↓reduceIte, reduceCtorEq, ↓stV, stW, Nat.reduceAdd, decide_eq_true (show (k : Int) ≠ 0 by omega)]) (fun _ => wpc_skip ?_) (fun h => by cases h)
      try simp only [↓stU, stD, Nat.reduceEqDiff, ↓reduceIte, reduceCtorEq, ↓stV, stW, Nat.reduceAdd]
      have hrem := bin_rem_nat (.p .int) .i64 (t := a) (d := k) hkp
      refine wpc_block (wpc_drq ?_)
      simp only [↓stU, stD, Nat.reduceEqDiff, ↓reduceIte, reduceCtorEq, ↓stV, stW, Nat.reduceAdd, p0, p1, hrem]
      refine ⟨a % k, Nat.mod_lt _ hkp, rfl, hh, by simp; omega, k, a % k, by simp only [↓stU, stD, Nat.reduceEqDiff, ↓reduceIte, reduceCtorEq, ↓stV, stW, Nat.reduceAdd], by simp only [↓stU, stD, Nat.reduceEqDiff, ↓reduceIte, reduceCtorEq, ↓stV, stW, Nat.reduceAdd], hb, by have := Nat.mod_lt a hkp; omega, ?_, rfl⟩
      rw [← hg, Nat.gcd_comm a k, Nat.gcd_rec k a, Nat.gcd_comm]
  · rintro o ⟨F, inr⟩ S' ⟨rfl, hS, p0, hg⟩
    simp only at p0
    try simp only [↓stU, stD, Nat.reduceEqDiff, ↓reduceIte, reduceCtorEq, ↓stV, stW, Nat.reduceAdd]
    refine wpc_seq (wpc_reg ?_)
    have w1 : IntKind.i64.wrap (-((Nat.gcd x y : Nat) : Int)) = -((Nat.gcd x y : Nat) : Int) := wrap_i64 (by omega) (by omega)
    simp only [↓stU, stD, Nat.reduceEqDiff, ↓reduceIte, reduceCtorEq, ↓stV, stW, Nat.reduceAdd, p0, un_neg_i, w1, evQ_mm, mm_cons, mm_int, mm_nil]
    refine wpc_ret ?_
    have : mx ((Nat.gcd x y : Nat) : Int) (-((Nat.gcd x y : Nat) : Int)) = ((Nat.gcd x y : Nat) : Int) := by unfold mx; rw [if_pos (by omega)]
    simp only [↓stU, stD, Nat.reduceEqDiff, ↓reduceIte, reduceCtorEq, ↓stV, stW, Nat.reduceAdd, this]
    exact hS

theorem ratOf_spec {S : St} {a : Int} {b : Nat} (H : Has fns) (ha : -9223372036854775807 ≤ a ∧ a ≤ 9223372036854775807) (hb0 : 0 < b) (hb : b ≤ 9223372036854775807) : wpf fns (.fn 16 [] []) [.int .i64 a, .int .i64 (b : Int)] S fun r S' => RatIs S' r (mkRat a b) ∧ Same S S' := by
  have hg : 0 < Nat.gcd a.natAbs b := Nat.gcd_pos_of_pos_right _ hb0
  have w1 : IntKind.i64.wrap (-a) = -a := wrap_i64 (by omega) (by omega)
  have hmx : mx a (-a) = ((a.natAbs : Nat) : Int) := by unfold mx; split <;> omega
  refine wpf_fn H.f16 (by simp) ?_
  simp only [↓stU, stD, Nat.reduceEqDiff, ↓reduceIte, reduceCtorEq]
  refine wpc_seq (wpc_reg ?_)
  refine wpo_alloc ?_
  intro S1 hS1 hn1 hb1
  simp only [↓stU, stD, Nat.reduceEqDiff, ↓reduceIte, reduceCtorEq]
  refine wpc_seq (wpc_reg ?_)
  simp only [↓stU, stD, Nat.reduceEqDiff, ↓reduceIte, reduceCtorEq, ↓stV, stW, Nat.reduceAdd, un_neg_i, w1, evQ_mm, mm_cons, mm_int, mm_nil, hmx]
  refine wpo_call ?_
  try simp only [↓stU, stD, Nat.reduceEqDiff, ↓reduceIte, reduceCtorEq, ↓stV, stW, Nat.reduceAdd]
  refine wpf_mono (kgcd_spec H (by omega) hb) ?_
  rintro _ S2 ⟨rfl, hS2⟩
  try simp only [↓stU, stD, Nat.reduceEqDiff, ↓reduceIte, reduceCtorEq, ↓stV, stW, Nat.reduceAdd]
  obtain ⟨g, hge⟩ : ∃ g, g = Nat.gcd a.natAbs b := ⟨_, rfl⟩
  rw [← hge] at hg ⊢
  have hga : g ∣ a.natAbs := by rw [hge]; exact Nat.gcd_dvd_left ..
  have hgb : g ≤ 9223372036854775807 := by have := Nat.gcd_le_right a.natAbs hb0; rw [← hge] at this; omega
  -- the quotients
  have hq2 : binV .quo (.p .int) (.int .i64 (b : Int)) (.int .i64 (g : Int)) = some (.int .i64 ((b / g : Nat) : Int)) := by
    rw [bin_quo_i (.p .int) (by omega) (by omega) (by omega)]; rfl
  obtain ⟨n, hn⟩ : ∃ n, n = a.natAbs / g := ⟨_, rfl⟩
  have hnle : n ≤ 9223372036854775807 := by have := Nat.div_le_self a.natAbs g; omega
  obtain ⟨s, hs⟩ : ∃ s, s = decide (a < 0) := ⟨_, rfl⟩
  have hq1 : binV .quo (.p .int) (.int .i64 a) (.int .i64 (g : Int)) = some (.int .i64 (sg s n)) := by
    rw [bin_quo_t (.p .int) (by omega)]
    congr 2
    by_cases hneg : a < 0
    · have e1 : a = -((a.natAbs : Nat) : Int) := by omega
      have e2 : a.tdiv (g : Int) = -((n : Nat) : Int) := by
        rw [e1, Int.neg_tdiv, Int.tdiv_eq_ediv_of_nonneg (by omega), hn]
        rfl
      rw [e2, hs, decide_eq_true hneg]
      exact wrap_i64 (by omega) (by omega)
    · have e1 : a = ((a.natAbs : Nat) : Int) := by omega
      have e2 : a.tdiv (g : Int) = ((n : Nat) : Int) := by
        rw [Int.tdiv_eq_ediv_of_nonneg (by omega), e1, hn]; rfl
      rw [e2, hs, decide_eq_false hneg]
      exact wrap_i64 (by omega) (by omega)
  obtain ⟨e1, e2, e3⟩ := lowest (neg := s) (n := a.natAbs) (d := b) (g := g) hge (by omega)
  have esg : sg s a.natAbs = a := by rw [hs]; unfold sg; by_cases h : a < 0 <;> simp [h] <;> omega
  rw [esg] at e1
  rw [← hn] at e1 e2
  rw [← e1]
  have hsn : n = 0 → s = false := fun h => by
    rw [hs]
    have : a.natAbs = 0 := by
      have := Nat.div_mul_cancel hga
      rw [← hn, h] at this; omega
    exact decide_eq_false (by omega)
  have hbg : b / g ≤ 9223372036854775807 := by have := Nat.div_le_self b g; omega
  refine wpc_seq (wpc_drq ?_)
  simp only [↓stU, stD, Nat.reduceEqDiff, ↓reduceIte, reduceCtorEq, ↓stV, stW, Nat.reduceAdd, hq1, hq2]
  obtain ⟨T, hT⟩ : ∃ T : St, T = ⟨S2.h, S2.nx + 8⟩ := ⟨_, rfl⟩
  rw [← hT]
  have hST : Same S2 T := by rw [hT]; exact Same.nx S2 8
  have hS0 := hS1.trans (hS2.trans hST)
  have gT : T.h.get S.nx = some (.cells [.bool false, .nilsl, .nilsl] false 0) := by rw [hST.2 _ (by have := hS2.1; omega), hS2.2 _ (by omega)]; exact hb1
  have ltT : S.nx < T.nx := by have := hS2.1; have := hST.1; omega
  refine wpc_seq (wpc_seq (wpc_reg ?_))
  try simp only [↓stU, stD, Nat.reduceEqDiff, ↓reduceIte, reduceCtorEq, ↓stV, stW, Nat.reduceAdd]
  cases hsb : s with
  | true =>
    rw [hsb] at e1 hsn
    have hn0 : 0 < n := by rcases Nat.eq_zero_or_pos n with h | h
                           · have := hsn h; cases this
                           · exact h
    have hlt : sg true n < 0 := by show -(n : Int) < 0; omega
    have w2 : IntKind.i64.wrap (-(sg true n)) = (n : Int) := by show IntKind.i64.wrap (- -(n : Int)) = _; rw [Int.neg_neg]; exact wrap_i64 (by omega) (by omega)
    refine wpc_if (t := true) (by simp only [↓stU, stD, Nat.reduceEqDiff, ↓reduceIte, reduceCtorEq, ↓stV, stW, Nat.reduceAdd, decide_eq_true hlt]) (fun _ => ?_) (fun h => by cases h)
    refine wpc_seq (wpc_reg ?_)
    simp only [↓stU, stD, Nat.reduceEqDiff, ↓reduceIte, reduceCtorEq, ↓stV, stW, Nat.reduceAdd, un_neg_i, w2]
    refine wpo_call ?_
    try simp only [↓stU, stD, Nat.reduceEqDiff, ↓reduceIte, reduceCtorEq, ↓stV, stW, Nat.reduceAdd]
    refine wpf_mono (natOf_spec H hnle) ?_
    rintro nv S3 ⟨hnv, hS3⟩
    try simp only [↓stU, stD, Nat.reduceEqDiff, ↓reduceIte, reduceCtorEq, ↓stV, stW, Nat.reduceAdd]
    refine wpo_call ?_
    try simp only [↓stU, stD, Nat.reduceEqDiff, ↓reduceIte, reduceCtorEq, ↓stV, stW, Nat.reduceAdd]
    refine wpf_mono (natOf_spec H hbg) ?_
    rintro dv S4 ⟨hdv, hS4⟩
    have hbd : ∀ F : Fr, tmpV 22 F = nv → tmpV 24 F = dv → evQ (.build [(.bool false), .nilsl, .nilsl] [(0, 1, (.c (.bool true))), (1, 1, (.t 22)), (2, 1, (.t 24))]) F S4.h = some (.agg [.bool true, nv, dv]) := fun F h h' => by
      show osel (fillP [.bool false, .nilsl, .nilsl] [(0, 1, .bool true), (1, 1, tmpV 22 F), (2, 1, tmpV 24 F)]) (fun cs => some (AV.agg cs)) = _
      rw [h, h']
      simp only [fillP, cells_bool, nat_cells hnv, nat_cells hdv, osel_some]
      rfl
    try simp only [↓stU, stD, Nat.reduceEqDiff, ↓reduceIte, reduceCtorEq, ↓stV, stW, Nat.reduceAdd]
    rw [hbd _ (by simp only [↓stU, stD, Nat.reduceEqDiff, ↓reduceIte, reduceCtorEq, ↓stV, stW, Nat.reduceAdd]) (by simp only [↓stU, stD, Nat.reduceEqDiff, ↓reduceIte, reduceCtorEq, ↓stV, stW, Nat.reduceAdd])]
    try simp only [↓stU, stD, Nat.reduceEqDiff, ↓reduceIte, reduceCtorEq, ↓stV, stW, Nat.reduceAdd]
    have g4 : S4.h.get S.nx = some (.cells [.bool false, .nilsl, .nilsl] false 0) := by rw [hS4.2 _ (by have := hS3.1; omega), hS3.2 _ ltT]; exact gT
    refine wpo_st (b := S.nx) (by simp only [↓stU, stD, Nat.reduceEqDiff, ↓reduceIte, reduceCtorEq, ↓stV, stW, Nat.reduceAdd]) (by simp only [↓stU, stD, Nat.reduceEqDiff, ↓reduceIte, reduceCtorEq, ↓stV, stW, Nat.reduceAdd, cells_agg]; rfl) g4 rfl rfl ?_
    intro S5 hS5 hn5 hb5
    try simp only [↓stU, stD, Nat.reduceEqDiff, ↓reduceIte, reduceCtorEq, ↓stV, stW, Nat.reduceAdd]
    refine wpc_ret ?_
    simp only [↓stU, stD, Nat.reduceEqDiff, ↓reduceIte, reduceCtorEq, ↓stV, stW, Nat.reduceAdd, results_cell, ld3 hb5]
    exact ⟨ratIs_mk ((hnv.same hS4).st g4 rfl hS5 hb5) (hdv.st g4 rfl hS5 hb5) e3 e2 hsn, hS5.same (hS0.trans (hS3.trans hS4)) (Nat.le_refl _)⟩
  | false =>
    rw [hsb] at e1
    have hlt : ¬ sg false n < 0 := by show ¬ (n : Int) < 0; omega
    refine wpc_if (t := false) (by simp only [↓stU, stD, Nat.reduceEqDiff, ↓reduceIte, reduceCtorEq, ↓stV, stW, Nat.reduceAdd, decide_eq_false hlt]) (fun h => by cases h) (fun _ => wpc_skip ?_)
    try simp only [↓stU, stD, Nat.reduceEqDiff, ↓reduceIte, reduceCtorEq, ↓stV, stW, Nat.reduceAdd]
    refine wpc_seq (wpc_reg ?_)
    simp only [↓stU, stD, Nat.reduceEqDiff, ↓reduceIte, reduceCtorEq, ↓stV, stW, Nat.reduceAdd, show sg false n = (n : Int) from rfl]
    refine wpo_call ?_
    try simp only [↓stU, stD, Nat.reduceEqDiff, ↓reduceIte, reduceCtorEq, ↓stV, stW, Nat.reduceAdd]
    refine wpf_mono (natOf_spec H hnle) ?_
    rintro nv S3 ⟨hnv, hS3⟩
    try simp only [↓stU, stD, Nat.reduceEqDiff, ↓reduceIte, reduceCtorEq, ↓stV, stW, Nat.reduceAdd]
    refine wpo_call ?_
    try simp only [↓stU, stD, Nat.reduceEqDiff, ↓reduceIte, reduceCtorEq, ↓stV, stW, Nat.reduceAdd]
    refine wpf_mono (natOf_spec H hbg) ?_
    rintro dv S4 ⟨hdv, hS4⟩
    have hbd : ∀ F : Fr, tmpV 27 F = nv → tmpV 29 F = dv → evQ (.build [(.bool false), .nilsl, .nilsl] [(1, 1, (.t 27)), (2, 1, (.t 29))]) F S4.h = some (.agg [.bool false, nv, dv]) := fun F h h' => by
      show osel (fillP [.bool false, .nilsl, .nilsl] [(1, 1, tmpV 27 F), (2, 1, tmpV 29 F)]) (fun cs => some (AV.agg cs)) = _
      rw [h, h']
      simp only [fillP, nat_cells hnv, nat_cells hdv, osel_some]
      rfl
    try simp only [↓stU, stD, Nat.reduceEqDiff, ↓reduceIte, reduceCtorEq, ↓stV, stW, Nat.reduceAdd]
    rw [hbd _ (by simp only [↓stU, stD, Nat.reduceEqDiff, ↓reduceIte, reduceCtorEq, ↓stV, stW, Nat.reduceAdd]) (by simp only [↓stU, stD, Nat.reduceEqDiff, ↓reduceIte, reduceCtorEq, ↓stV, stW, Nat.reduceAdd])]
    try simp only [↓stU, stD, Nat.reduceEqDiff, ↓reduceIte, reduceCtorEq, ↓stV, stW, Nat.reduceAdd]
    have g4 : S4.h.get S.nx = some (.cells [.bool false, .nilsl, .nilsl] false 0) := by rw [hS4.2 _ (by have := hS3.1; omega), hS3.2 _ ltT]; exact gT
    refine wpo_st (b := S.nx) (by simp only [↓stU, stD, Nat.reduceEqDiff, ↓reduceIte, reduceCtorEq, ↓stV, stW, Nat.reduceAdd]) (by simp only [↓stU, stD, Nat.reduceEqDiff, ↓reduceIte, reduceCtorEq, ↓stV, stW, Nat.reduceAdd, cells_agg]; rfl) g4 rfl rfl ?_
    intro S5 hS5 hn5 hb5
    try simp only [↓stU, stD, Nat.reduceEqDiff, ↓reduceIte, reduceCtorEq, ↓stV, stW, Nat.reduceAdd]
    refine wpc_ret ?_
    simp only [↓stU, stD, Nat.reduceEqDiff, ↓reduceIte, reduceCtorEq, ↓stV, stW, Nat.reduceAdd, results_cell, ld3 hb5]
    exact ⟨ratIs_mk ((hnv.same hS4).st g4 rfl hS5 hb5) (hdv.st g4 rfl hS5 hb5) e3 e2 (fun _ => rfl), hS5.same (hS0.trans (hS3.trans hS4)) (Nat.le_refl _)⟩
end Go.Ev.Gl

namespace Go.Ev.Gl
variable {fns : T AFn}

theorem of_spec' {S : St} {a : Int} {b : Nat} (H : Has fns) (ha : -9223372036854775807 ≤ a ∧ a ≤ 9223372036854775807) (hb0 : 0 < b) (hb : b ≤ 9223372036854775807) : wpf fns (.fn 19 [] []) [.int .i64 a, .int .i64 (b : Int)] S fun r S' => RatIs S' r (mkRat a b) ∧ Same S S' := by
  refine wpf_fn H.f19 (by simp) ?_
  simp only [↓stU, stD, Nat.reduceEqDiff, ↓reduceIte, reduceCtorEq]
  refine wpc_seq (wpc_reg ?_)
  refine wpo_alloc ?_
  intro S1 hS1 hn1 hb1
  simp only [↓stU, stD, Nat.reduceEqDiff, ↓reduceIte, reduceCtorEq]
  refine wpc_seq (wpc_reg ?_)
  simp only [↓stU, stD, Nat.reduceEqDiff, ↓reduceIte, reduceCtorEq]
  refine wpo_call ?_
  simp only [↓stU, stD, Nat.reduceEqDiff, ↓reduceIte, reduceCtorEq]
  refine wpf_mono (ratOf_spec H ha hb0 hb) ?_
  rintro v S2 ⟨hv, hS2⟩
  obtain ⟨c0, c1, c2, rfl⟩ := hv.cells
  have g2 : S2.h.get S.nx = some (.cells [.bool false, .nilsl, .nilsl] false 0) := by rw [hS2.2 _ (by omega)]; exact hb1
  refine wpo_st (b := S.nx) (by simp only [↓stU, stD, Nat.reduceEqDiff, ↓reduceIte, reduceCtorEq]) (by simp only [↓stU, stD, Nat.reduceEqDiff, ↓reduceIte, reduceCtorEq, cells_agg]; rfl) g2 rfl rfl ?_
  intro S3 hS3 hn3 hb3
  simp only [↓stU, stD, Nat.reduceEqDiff, ↓reduceIte, reduceCtorEq]
  refine wpc_ret ?_
  simp only [↓stU, stD, Nat.reduceEqDiff, ↓reduceIte, reduceCtorEq, results_cell, ld3 hb3]
  exact ⟨hv.st g2 rfl hS3 hb3, hS3.same (hS1.trans hS2) (Nat.le_refl _)⟩

theorem sum_spec {S : St} {a b : AV} {p q : Rat} (H : Has fns) (hL : Laid S) (ha : RatIs S a p) (hb : RatIs S b q) (hp : InBound p) (hq : InBound q) (hin : InBound (p + q)) : wpf fns (.fn 20 [] []) [a, b] S fun r S' => RatIs S' r (p + q) ∧ Same S S' := by
  obtain ⟨a0, a1, a2, rfl⟩ := ha.cells
  obtain ⟨b0, b1, b2, rfl⟩ := hb.cells
  refine wpf_fn H.f20 (by simp) ?_
  simp only [↓stU, stD, Nat.reduceEqDiff, ↓reduceIte, reduceCtorEq]
  refine wpc_seq (wpc_reg ?_)
  refine wpo_box (by simp only [↓stU, stD, Nat.reduceEqDiff, ↓reduceIte, reduceCtorEq, cells_agg]; rfl) ?_
  intro S1 hS1 hn1 hc1
  refine wpo_box (by simp only [↓stU, stD, Nat.reduceEqDiff, ↓reduceIte, reduceCtorEq, cells_agg]; rfl) ?_
  intro S2 hS2 hn2 hc2
  refine wpo_alloc ?_
  intro S3 hS3 hn3 hc3
  simp only [↓stU, stD, Nat.reduceEqDiff, ↓reduceIte, reduceCtorEq]
  have g1 : S3.h.get S.nx = some (.cells [a0, a1, a2] false 0) := by rw [hS3.2 _ (by omega), hS2.2 _ (by omega)]; exact hc1
  have g2 : S3.h.get S1.nx = some (.cells [b0, b1, b2] false 0) := by rw [hS3.2 _ (by omega)]; exact hc2
  have hS := hS1.trans (hS2.trans hS3)
  refine wpc_seq (wpc_reg ?_)
  simp only [↓stU, stD, Nat.reduceEqDiff, ↓reduceIte, reduceCtorEq, ld3 g1, ld3 g2]
  refine wpo_call ?_
  simp only [↓stU, stD, Nat.reduceEqDiff, ↓reduceIte, reduceCtorEq]
  refine wpf_mono (radd_spec H (hL.same hS) (ha.same hS) (hb.same hS) hp hq hin) ?_
  rintro _ S4 ⟨v, rfl, hv, hS4⟩
  obtain ⟨c0, c1, c2, rfl⟩ := hv.cells
  simp only [↓stU, stD, Nat.reduceEqDiff, ↓reduceIte, reduceCtorEq, ex0, ex1]
  refine wpo_alloc ?_
  intro S5 hS5 hn5 hc5
  refine wpo_st (b := S4.nx) (by simp only [↓stU, stD, Nat.reduceEqDiff, ↓reduceIte, reduceCtorEq]) (by simp only [↓stU, stD, Nat.reduceEqDiff, ↓reduceIte, reduceCtorEq, cells_agg]; rfl) hc5 rfl rfl ?_
  intro S6 hS6 hn6 hb6
  simp only [↓stU, stD, Nat.reduceEqDiff, ↓reduceIte, reduceCtorEq]
  have h46 : Same S4 S6 := hS6.same hS5 (Nat.le_refl _)
  have g6 : S6.h.get S2.nx = some (.cells [.bool false, .nilsl, .nilsl] false 0) := by rw [h46.2 _ (by have := hS4.1; omega), hS4.2 _ (by omega)]; exact hc3
  refine wpc_seq (wpc_reg ?_)
  simp only [↓stU, stD, Nat.reduceEqDiff, ↓reduceIte, reduceCtorEq, ld3 hb6]
  refine wpo_st (b := S2.nx) (by simp only [↓stU, stD, Nat.reduceEqDiff, ↓reduceIte, reduceCtorEq]) (by simp only [↓stU, stD, Nat.reduceEqDiff, ↓reduceIte, reduceCtorEq, cells_agg]; rfl) g6 rfl rfl ?_
  intro S7 hS7 hn7 hb7
  simp only [↓stU, stD, Nat.reduceEqDiff, ↓reduceIte, reduceCtorEq]
  refine wpc_ret ?_
  simp only [↓stU, stD, Nat.reduceEqDiff, ↓reduceIte, reduceCtorEq, results_cell, ld3 hb7]
  exact ⟨(hv.same h46).st g6 rfl hS7 hb7, hS7.same (hS.trans (hS4.trans h46)) (by omega)⟩

theorem product_spec {S : St} {a b : AV} {p q : Rat} (H : Has fns) (hL : Laid S) (ha : RatIs S a p) (hb : RatIs S b q) (hp : InBound p) (hq : InBound q) (hin : InBound (p * q)) : wpf fns (.fn 35 [] []) [a, b] S fun r S' => RatIs S' r (p * q) ∧ Same S S' := by
  obtain ⟨a0, a1, a2, rfl⟩ := ha.cells
  obtain ⟨b0, b1, b2, rfl⟩ := hb.cells
  refine wpf_fn H.f35 (by simp) ?_
  simp only [↓stU, stD, Nat.reduceEqDiff, ↓reduceIte, reduceCtorEq]
  refine wpc_seq (wpc_reg ?_)
  refine wpo_box (by simp only [↓stU, stD, Nat.reduceEqDiff, ↓reduceIte, reduceCtorEq, cells_agg]; rfl) ?_
  intro S1 hS1 hn1 hc1
  refine wpo_box (by simp only [↓stU, stD, Nat.reduceEqDiff, ↓reduceIte, reduceCtorEq, cells_agg]; rfl) ?_
  intro S2 hS2 hn2 hc2
  refine wpo_alloc ?_
  intro S3 hS3 hn3 hc3
  simp only [↓stU, stD, Nat.reduceEqDiff, ↓reduceIte, reduceCtorEq]
  have g1 : S3.h.get S.nx = some (.cells [a0, a1, a2] false 0) := by rw [hS3.2 _ (by omega), hS2.2 _ (by omega)]; exact hc1
  have g2 : S3.h.get S1.nx = some (.cells [b0, b1, b2] false 0) := by rw [hS3.2 _ (by omega)]; exact hc2
  have hS := hS1.trans (hS2.trans hS3)
  refine wpc_seq (wpc_reg ?_)
  simp only [↓stU, stD, Nat.reduceEqDiff, ↓reduceIte, reduceCtorEq, ld3 g1, ld3 g2]
  refine wpo_call ?_
  simp only [↓stU, stD, Nat.reduceEqDiff, ↓reduceIte, reduceCtorEq]
  refine wpf_mono (rmul_spec H (hL.same hS) (ha.same hS) (hb.same hS) hp hq hin) ?_
  rintro _ S4 ⟨v, rfl, hv, hS4⟩
  obtain ⟨c0, c1, c2, rfl⟩ := hv.cells
  simp only [↓stU, stD, Nat.reduceEqDiff, ↓reduceIte, reduceCtorEq, ex0, ex1]
  refine wpo_alloc ?_
  intro S5 hS5 hn5 hc5
  refine wpo_st (b := S4.nx) (by simp only [↓stU, stD, Nat.reduceEqDiff, ↓reduceIte, reduceCtorEq]) (by simp only [↓stU, stD, Nat.reduceEqDiff, ↓reduceIte, reduceCtorEq, cells_agg]; rfl) hc5 rfl rfl ?_
  intro S6 hS6 hn6 hb6
  simp only [↓stU, stD, Nat.reduceEqDiff, ↓reduceIte, reduceCtorEq]
  have h46 : Same S4 S6 := hS6.same hS5 (Nat.le_refl _)
  have g6 : S6.h.get S2.nx = some (.cells [.bool false, .nilsl, .nilsl] false 0) := by rw [h46.2 _ (by have := hS4.1; omega), hS4.2 _ (by omega)]; exact hc3
  refine wpc_seq (wpc_reg ?_)
  simp only [↓stU, stD, Nat.reduceEqDiff, ↓reduceIte, reduceCtorEq, ld3 hb6]
  refine wpo_st (b := S2.nx) (by simp only [↓stU, stD, Nat.reduceEqDiff, ↓reduceIte, reduceCtorEq]) (by simp only [↓stU, stD, Nat.reduceEqDiff, ↓reduceIte, reduceCtorEq, cells_agg]; rfl) g6 rfl rfl ?_
  intro S7 hS7 hn7 hb7
  simp only [↓stU, stD, Nat.reduceEqDiff, ↓reduceIte, reduceCtorEq]
  refine wpc_ret ?_
  simp only [↓stU, stD, Nat.reduceEqDiff, ↓reduceIte, reduceCtorEq, results_cell, ld3 hb7]
  exact ⟨(hv.same h46).st g6 rfl hS7 hb7, hS7.same (hS.trans (hS4.trans h46)) (by omega)⟩

theorem bnd_mk {s : Bool} {n d : Nat} (hn : n < B ^ 8) (hd : d < B ^ 8) (h0 : 0 < d) : Bnd 8 (mkRat (sg s n) d) := by
  obtain ⟨h1, h2⟩ := mkRat_le (n := sg s n) (d := d) (by omega)
  rw [sg_natAbs] at h1
  exact ⟨by omega, by omega⟩
theorem Bnd.inBound {k : Nat} {q : Rat} (h : Bnd k q) (hk : k ≤ 1024) : InBound q := by unfold InBound; exact Bnd.mono (j := 1024) h hk

theorem number_spec {S : St} {a b : AV} {l m : List Nat} {neg : Bool} (H : Has fns) (hL : Laid S) (ha : LimbIs S a l) (hb : LimbIs S b m) (hl : l.length ≤ 8) (hm : m.length ≤ 8) : wpf fns (.fn 33 [] []) [a, b, .bool neg] S fun r S' => ∃ v q, r = .tup [v, .bool true] ∧ RatIs S' v q ∧ Bnd 8 q ∧ Same S S' := by
  refine wpf_fn H.f33 (by simp) ?_
  simp only [↓stU, stD, Nat.reduceEqDiff, ↓reduceIte, reduceCtorEq]
  refine wpc_seq (wpc_reg ?_)
  refine wpo_alloc ?_
  intro S1 hS1 hn1 hc1
  simp only [↓stU, stD, Nat.reduceEqDiff, ↓reduceIte, reduceCtorEq]
  refine wpc_seq (wpc_reg ?_)
  simp only [↓stU, stD, Nat.reduceEqDiff, ↓reduceIte, reduceCtorEq]
  refine wpo_call ?_
  simp only [↓stU, stD, Nat.reduceEqDiff, ↓reduceIte, reduceCtorEq]
  refine wpf_mono (limbs_spec H (hb.same hS1) hm) ?_
  rintro dv S2 ⟨d, hd, hd8, hS2⟩
  try simp only [↓stU, stD, Nat.reduceEqDiff, ↓reduceIte, reduceCtorEq]
  obtain ⟨k, hk, hk0⟩ := lenpos hd
  refine wpc_seq (wpc_mono (Q := fun o A' S' => o = .normal ∧ A'.inr = false ∧ Same S2 S' ∧ tmpV 0 A'.F = a ∧ tmpV 2 A'.F = .bool neg ∧ tmpV 6 A'.F = .ptr S.nx 0 ∧ ∃ dv d, tmpV 8 A'.F = dv ∧ NatIs S' dv d ∧ 0 < d ∧ d < B ^ 8) ?_ ?_)
  · refine wpc_seq (wpc_reg ?_)
    simp only [↓stU, stD, Nat.reduceEqDiff, ↓reduceIte, reduceCtorEq, hk]
    by_cases h0 : k = 0
    · refine wpc_if (t := true) (by simp only [↓stU, stD, Nat.reduceEqDiff, ↓reduceIte, reduceCtorEq, decide_eq_true (show (k : Int) = 0 by omega)]) (fun _ => wpc_reg ?_) (fun h => by cases h)
      refine wpo_al (evA_one (k := .u32) (n := 1) (by simp only [↓stU, stD, Nat.reduceEqDiff, ↓reduceIte, reduceCtorEq])) ?_
      intro S3 hS3 hn3 hc3
      simp only [↓stU, stD, Nat.reduceEqDiff, ↓reduceIte, reduceCtorEq]
      refine ⟨hS3, _, 1, rfl, ⟨[1], ?_, norm_one, val_one⟩, by decide, by decide⟩
      exact limbs_own (l := [1]) (b := S2.nx) (n := 1) (cap := 1) (o' := false) hc3 (by omega) rfl (Nat.le_refl _)
    · refine wpc_if (t := false) (by simp only [↓stU, stD, Nat.reduceEqDiff, ↓reduceIte, reduceCtorEq, decide_eq_false (show ¬ (k : Int) = 0 by omega)]) (fun h => by cases h) (fun _ => wpc_skip ?_)
      simp only [↓stU, stD, Nat.reduceEqDiff, ↓reduceIte, reduceCtorEq]
      refine ⟨Same.refl _, _, d, rfl, hd, ?_, hd8⟩
      rcases Nat.eq_zero_or_pos d with h | h
      · exact absurd (hk0.2 h) h0
      · exact h
  rintro o ⟨F, inr⟩ S3 ⟨rfl, q0, hS3, p0, p2, p6, dv, d, p8, hd, hdp, hd8⟩
  simp only at q0 p0 p2 p6 p8
  subst q0
  try simp only [↓stU, stD, Nat.reduceEqDiff, ↓reduceIte, reduceCtorEq]
  have hS13 := hS1.trans (hS2.trans hS3)
  refine wpc_seq (wpc_reg ?_)
  simp only [↓stU, stD, Nat.reduceEqDiff, ↓reduceIte, reduceCtorEq, p0, p2]
  refine wpo_call ?_
  simp only [↓stU, stD, Nat.reduceEqDiff, ↓reduceIte, reduceCtorEq]
  refine wpf_mono (limbs_spec H (ha.same hS13) hl) ?_
  rintro nv S4 ⟨n, hn, hn8, hS4⟩
  simp only [↓stU, stD, Nat.reduceEqDiff, ↓reduceIte, reduceCtorEq, p8]
  refine wpo_call ?_
  simp only [↓stU, stD, Nat.reduceEqDiff, ↓reduceIte, reduceCtorEq]
  refine wpf_mono (make_spec (neg := neg) H (hL.same (hS13.trans hS4)) hn (hd.same hS4) (pow_up (j := 1024) hn8 (by decide)) (pow_up (j := 1024) hd8 (by decide)) hdp) ?_
  rintro _ S5 ⟨v, rfl, hv, hS5⟩
  have hq8 := bnd_mk (s := neg) hn8 hd8 hdp
  generalize mkRat (sg neg n) d = q at *
  obtain ⟨c0, c1, c2, rfl⟩ := hv.cells
  simp only [↓stU, stD, Nat.reduceEqDiff, ↓reduceIte, reduceCtorEq, ex0, ex1]
  refine wpo_alloc ?_
  intro S6 hS6 hn6 hc6
  refine wpo_st (b := S5.nx) (by simp only [↓stU, stD, Nat.reduceEqDiff, ↓reduceIte, reduceCtorEq]) (by simp only [↓stU, stD, Nat.reduceEqDiff, ↓reduceIte, reduceCtorEq, cells_agg]; rfl) hc6 rfl rfl ?_
  intro S7 hS7 hn7 hb7
  simp only [↓stU, stD, Nat.reduceEqDiff, ↓reduceIte, reduceCtorEq]
  have h57 : Same S5 S7 := hS7.same hS6 (Nat.le_refl _)
  have h17 := (hS2.trans hS3).trans (hS4.trans (hS5.trans h57))
  have g7 : S7.h.get S.nx = some (.cells [.bool false, .nilsl, .nilsl] false 0) := by rw [h17.2 _ (by omega)]; exact hc1
  have hv7 := hv.same h57
  have l15 := ((hS2.trans hS3).trans (hS4.trans hS5)).1
  have lt5 : S5.nx < S7.nx := by omega
  have ne5 : ¬ S5.nx = S.nx := by omega
  refine wpc_seq (wpc_drd1 (fun c => c = S.nx) ?_)
  intro S8 hS8
  simp only [↓stU, stD, Nat.reduceEqDiff, ↓reduceIte, reduceCtorEq, ↓stV, stW, Nat.reduceAdd, ld3 hb7, lt5, ne5, not_false_eq_true, self_rat hv7, decide_true]
  refine runD_call0 rfl ?_
  try simp only [↓stU, stD, Nat.reduceEqDiff, ↓reduceIte, reduceCtorEq, ↓stV, stW, Nat.reduceAdd]
  refine wpf_mono (check_ok H (hL.same (hS1.trans (h17.trans hS8))) (hv7.same hS8) (hq8.inBound (by decide))) ?_
  rintro _ S9 ⟨rfl, hS9⟩
  refine ⟨hS9, ?_⟩
  simp only [↓stU, stD, Nat.reduceEqDiff, ↓reduceIte, reduceCtorEq, ↓stV, stW, Nat.reduceAdd, decide_true]
  have g9 : S9.h.get S.nx = some (.cells [.bool false, .nilsl, .nilsl] false 0) := by rw [hS9.2 _ (by have := hS8.1; omega), hS8.2 _ (by omega)]; exact g7
  refine runD_st0 (b := S.nx) rfl (by simp only [↓stU, stD, Nat.reduceEqDiff, ↓reduceIte, reduceCtorEq, ↓stV, stW, Nat.reduceAdd, p6]) (by simp only [↓stU, stD, Nat.reduceEqDiff, ↓reduceIte, reduceCtorEq, ↓stV, stW, Nat.reduceAdd, cells_agg]; rfl) g9 rfl rfl rfl ?_
  intro S10 hS10 hn10 hb10
  simp only [↓stU, stD, Nat.reduceEqDiff, ↓reduceIte, reduceCtorEq, ↓stV, stW, Nat.reduceAdd]
  refine wpc_ret ?_
  simp only [↓stU, stD, Nat.reduceEqDiff, ↓reduceIte, reduceCtorEq, ↓stV, stW, Nat.reduceAdd, results_cell, p6, ld3 hb10]
  exact ⟨_, q, rfl, (hv7.same (hS8.trans hS9)).st g9 rfl hS10 hb10, hq8, hS10.same (hS1.trans (h17.trans (hS8.trans hS9))) (Nat.le_refl _)⟩
end Go.Ev.Gl

namespace Go.Ev.Gl
variable {fns : T AFn}

theorem runD_st1 {W : Nat → Prop} {h0 : T AB} {base : Nat} {m i : Nat} {l : List AO} {F : Fr} {S : St} {last : Option Nat} {Q : Fr → St → List Pend → Prop} {n j id : Nat} {x v : Opd} {cs cs' : List AV} (ht : Nat.testBit m j = true) (h : inMask last m = true) (hx : x.val F = .ptr id 0) (hv : (v.val F).cells = some cs') (h1 : cs.length = n) (h2 : cs'.length = n) (hid : base ≤ id)
    (hr : ∀ S1, SameBut id S S1 → S1.nx = S.nx → S1.h.get id = some (.cells cs' false 0) → runD fns W h0 base l (i + 1) F S1 [] (some i) Q) : runD fns W h0 base (⟨none, .x (.st n x v), none, m⟩ :: l) i F S [⟨j, id, .cells cs false 0⟩] last Q := by
  have hb : (⟨S.h.set id (some (.cells cs false 0)), S.nx⟩ : St).h.get id = some (.cells cs false 0) := by simp only; rw [T.get_set, if_pos rfl]
  refine runD_st (S1 := ⟨(S.h.set id (some (.cells cs false 0))).set id (some (.cells cs' false 0)), S.nx⟩) h ?_ ⟨Nat.le_refl _, fun c hc hw => ?_⟩ ?_
  · rw [flush_one ht, hv, osel_some, hx]; exact xst_all hb h1 h2
  · simp only
    rw [flush_one ht, T.get_set, if_neg (by omega)]
  · rw [flush_one ht]
    refine hr _ ⟨Nat.le_refl _, fun c hc hne => ?_⟩ rfl ?_
    · simp only
      rw [T.get_set, if_neg hne, T.get_set, if_neg hne]
    · simp only
      rw [T.get_set, if_pos rfl]

/-- a quotient by 0 -/
theorem rdiv_zero {S : St} {a b : AV} {p q : Rat} (H : Has fns) (hL : Laid S) (ha : RatIs S a p) (hb : RatIs S b q) (hp : InBound p) (hq : InBound q) (h0 : q.num = 0) : wpf fns (.fn 28 [] []) [a, b] S fun r S' => r = .tup [.agg [.bool false, .nilsl, .nilsl], .int .i64 6] ∧ Same S S' := by
  obtain ⟨a0, a1, a2, rfl⟩ := ha.cells
  obtain ⟨b0, b1, b2, rfl⟩ := hb.cells
  refine wpf_fn H.f28 (by simp) ?_
  simp only [↓stU, stD, Nat.reduceEqDiff, ↓reduceIte, reduceCtorEq]
  refine wpc_seq (wpc_reg ?_)
  refine wpo_box (by simp only [↓stU, stD, Nat.reduceEqDiff, ↓reduceIte, reduceCtorEq, cells_agg]; rfl) ?_
  intro S1 hS1 hn1 hc1
  refine wpo_box (by simp only [↓stU, stD, Nat.reduceEqDiff, ↓reduceIte, reduceCtorEq, cells_agg]; rfl) ?_
  intro S2 hS2 hn2 hc2
  refine wpo_alloc ?_
  intro S3 hS3 hn3 hc3
  simp only [↓stU, stD, Nat.reduceEqDiff, ↓reduceIte, reduceCtorEq]
  have g1 : S3.h.get S.nx = some (.cells [a0, a1, a2] false 0) := by rw [hS3.2 _ (by omega), hS2.2 _ (by omega)]; exact hc1
  have g2 : S3.h.get S1.nx = some (.cells [b0, b1, b2] false 0) := by rw [hS3.2 _ (by omega)]; exact hc2
  have hS := hS1.trans (hS2.trans hS3)
  refine wpc_seq (wpc_seq (wpc_reg ?_))
  simp only [↓stU, stD, Nat.reduceEqDiff, ↓reduceIte, reduceCtorEq, ld3 g1, ld3 g2]
  refine wpo_call ?_
  simp only [↓stU, stD, Nat.reduceEqDiff, ↓reduceIte, reduceCtorEq]
  refine wpf_mono (both_ok H (hL.same hS) (ha.same hS) (hb.same hS) hp hq) ?_
  rintro _ S4 ⟨rfl, hS4⟩
  try simp only [↓stU, stD, Nat.reduceEqDiff, ↓reduceIte, reduceCtorEq]
  refine wpc_seq (wpc_reg ?_)
  simp only [↓stU, stD, Nat.reduceEqDiff, ↓reduceIte, reduceCtorEq]
  refine wpc_if (t := false) (by simp only [↓stU, stD, Nat.reduceEqDiff, ↓reduceIte, reduceCtorEq]; rfl) (fun h => by cases h) (fun _ => wpc_skip ?_)
  simp only [↓stU, stD, Nat.reduceEqDiff, ↓reduceIte, reduceCtorEq]
  have g2' : S4.h.get S1.nx = some (.cells [b0, b1, b2] false 0) := by rw [hS4.2 _ (by omega)]; exact g2
  refine wpc_seq (wpc_seq (wpc_reg ?_))
  simp only [↓stU, stD, Nat.reduceEqDiff, ↓reduceIte, reduceCtorEq, ld3 g2']
  refine wpo_call ?_
  simp only [↓stU, stD, Nat.reduceEqDiff, ↓reduceIte, reduceCtorEq]
  refine wpf_mono (signOf_spec H (hb.same (hS.trans hS4))) ?_
  rintro _ S8 ⟨rfl, hS8⟩
  simp only [↓stU, stD, Nat.reduceEqDiff, ↓reduceIte, reduceCtorEq]
  have hsg : decide (sgn q = 1) = true := by unfold sgn; rw [if_pos h0]; rfl
  refine wpc_if (t := true) (by simp only [↓stU, stD, Nat.reduceEqDiff, ↓reduceIte, reduceCtorEq, hsg]) (fun _ => ?_) (fun h => by cases h)
  have hb0 : ∀ (F : Fr) (h : T AB), evQ (.build [(.bool false), .nilsl, .nilsl] []) F h = some (.agg [.bool false, .nilsl, .nilsl]) := fun _ _ => rfl
  refine wpc_seq (wpc_reg ?_)
  simp only [↓stU, stD, Nat.reduceEqDiff, ↓reduceIte, reduceCtorEq, hb0]
  have g8 : S8.h.get S2.nx = some (.cells [.bool false, .nilsl, .nilsl] false 0) := by rw [hS8.2 _ (by have := hS4.1; omega), hS4.2 _ (by omega)]; exact hc3
  refine wpo_st (b := S2.nx) (by simp only [↓stU, stD, Nat.reduceEqDiff, ↓reduceIte, reduceCtorEq]) (by simp only [↓stU, stD, Nat.reduceEqDiff, ↓reduceIte, reduceCtorEq, cells_agg]; rfl) g8 rfl rfl ?_
  intro S9 hS9 hn9 hb9
  simp only [↓stU, stD, Nat.reduceEqDiff, ↓reduceIte, reduceCtorEq]
  refine wpc_ret ?_
  simp only [↓stU, stD, Nat.reduceEqDiff, ↓reduceIte, reduceCtorEq, results_cell, ld3 hb9]
  exact hS9.same (hS.trans (hS4.trans hS8)) (by omega)


set_option maxRecDepth 10000 in
set_option maxHeartbeats 4000000 in
theorem field_one {S : St} {A : Act'} {a0 a1 a2 b0 b1 b2 c0 c1 c2 : AV} {bA bB bC : Nat} {p q r : Rat} {Q : Out → Act' → St → Prop} (H : Has fns) (hL : Laid S) (hA : RatIs S (.agg [a0, a1, a2]) p) (hB : RatIs S (.agg [b0, b1, b2]) q) (hC : RatIs S (.agg [c0, c1, c2]) r) (bp : Bnd 8 p) (bq : Bnd 8 q) (br : Bnd 8 r)
    (gA : S.h.get bA = some (.cells [a0, a1, a2] false 0)) (gB : S.h.get bB = some (.cells [b0, b1, b2] false 0)) (gC : S.h.get bC = some (.cells [c0, c1, c2] false 0)) (ltA : bA < S.nx) (ltB : bB < S.nx) (ltC : bC < S.nx) (p9 : tmpV 9 A.F = .ptr bA 0) (p11 : tmpV 11 A.F = .ptr bB 0) (p13 : tmpV 13 A.F = .ptr bC 0)
    (hQ : ∀ F' S', Same S S' → tmpV 9 F' = .ptr bA 0 → tmpV 11 F' = .ptr bB 0 → tmpV 13 F' = .ptr bC 0 → tmpV 131 F' = .bool false → Q .normal ⟨F', A.inr⟩ S') : wpc fns (.drw [⟨(some 70),(.q (.ld true 3 (.t 9))),none,0⟩, ⟨(some 71),(.q (.ld true 3 (.t 11))),none,0⟩, ⟨(some 72),(.x (.call (.c (.fn 20 [] [])) [(.t 70),(.t 71)])),none,3⟩, ⟨(some 73),(.q (.ld true 3 (.t 11))),none,0⟩, ⟨(some 74),(.q (.ld true 3 (.t 9))),none,0⟩, ⟨(some 75),(.x (.call (.c (.fn 20 [] [])) [(.t 73),(.t 74)])),none,31⟩, ⟨(some 76),(.x (.call (.c (.fn 14 [] [])) [(.t 72),(.t 75)])),none,63⟩, ⟨(some 77),(.q (.un .not (.t 76))),none,127⟩, ⟨(some 78),(.q (.mv (.t 77))),none,255⟩, ⟨(some 79),(.q (.ld true 3 (.t 9))),(some (78,false)),511⟩, ⟨(some 80),(.q (.ld true 3 (.t 11))),(some (78,false)),511⟩, ⟨(some 81),(.x (.call (.c (.fn 35 [] [])) [(.t 79),(.t 80)])),(some (78,false)),2047⟩, ⟨(some 82),(.q (.ld true 3 (.t 11))),(some (78,false)),511⟩, ⟨(some 83),(.q (.ld true 3 (.t 9))),(some (78,false)),511⟩, ⟨(some 84),(.x (.call (.c (.fn 35 [] [])) [(.t 82),(.t 83)])),(some (78,false)),16383⟩, ⟨(some 85),(.x (.call (.c (.fn 14 [] [])) [(.t 81),(.t 84)])),(some (78,false)),32767⟩, ⟨(some 86),(.q (.un .not (.t 85))),(some (78,false)),65535⟩, ⟨(some 87),(.q (.pick (.t 78) (.c (.bool true)) (.t 86))),none,131071⟩, ⟨(some 88),(.q (.mv (.t 87))),none,262143⟩, ⟨(some 89),(.q (.ld true 3 (.t 9))),(some (88,false)),524287⟩, ⟨(some 90),(.q (.ld true 3 (.t 11))),(some (88,false)),524287⟩, ⟨(some 91),(.x (.call (.c (.fn 20 [] [])) [(.t 89),(.t 90)])),(some (88,false)),2097151⟩, ⟨(some 92),(.q (.ld true 3 (.t 13))),(some (88,false)),524287⟩, ⟨(some 93),(.x (.call (.c (.fn 20 [] [])) [(.t 91),(.t 92)])),(some (88,false)),8388607⟩, ⟨(some 94),(.q (.ld true 3 (.t 9))),(some (88,false)),524287⟩, ⟨(some 95),(.q (.ld true 3 (.t 11))),(some (88,false)),524287⟩, ⟨(some 96),(.q (.ld true 3 (.t 13))),(some (88,false)),524287⟩, ⟨(some 97),(.x (.call (.c (.fn 20 [] [])) [(.t 95),(.t 96)])),(some (88,false)),117440511⟩, ⟨(some 98),(.x (.call (.c (.fn 20 [] [])) [(.t 94),(.t 97)])),(some (88,false)),268435455⟩, ⟨(some 99),(.x (.call (.c (.fn 14 [] [])) [(.t 93),(.t 98)])),(some (88,false)),536870911⟩, ⟨(some 100),(.q (.un .not (.t 99))),(some (88,false)),1073741823⟩, ⟨(some 101),(.q (.pick (.t 88) (.c (.bool true)) (.t 100))),none,2147483647⟩, ⟨(some 102),(.q (.mv (.t 101))),none,4294967295⟩, ⟨(some 103),(.q (.ld true 3 (.t 9))),(some (102,false)),8589934591⟩, ⟨(some 104),(.q (.ld true 3 (.t 11))),(some (102,false)),8589934591⟩, ⟨(some 105),(.x (.call (.c (.fn 35 [] [])) [(.t 103),(.t 104)])),(some (102,false)),34359738367⟩, ⟨(some 106),(.q (.ld true 3 (.t 13))),(some (102,false)),8589934591⟩, ⟨(some 107),(.x (.call (.c (.fn 35 [] [])) [(.t 105),(.t 106)])),(some (102,false)),137438953471⟩, ⟨(some 108),(.q (.ld true 3 (.t 9))),(some (102,false)),8589934591⟩, ⟨(some 109),(.q (.ld true 3 (.t 11))),(some (102,false)),8589934591⟩, ⟨(some 110),(.q (.ld true 3 (.t 13))),(some (102,false)),8589934591⟩, ⟨(some 111),(.x (.call (.c (.fn 35 [] [])) [(.t 109),(.t 110)])),(some (102,false)),1924145348607⟩, ⟨(some 112),(.x (.call (.c (.fn 35 [] [])) [(.t 108),(.t 111)])),(some (102,false)),4398046511103⟩, ⟨(some 113),(.x (.call (.c (.fn 14 [] [])) [(.t 107),(.t 112)])),(some (102,false)),8796093022207⟩, ⟨(some 114),(.q (.un .not (.t 113))),(some (102,false)),17592186044415⟩, ⟨(some 115),(.q (.pick (.t 102) (.c (.bool true)) (.t 114))),none,35184372088831⟩, ⟨(some 116),(.q (.mv (.t 115))),none,70368744177663⟩, ⟨(some 117),(.q (.ld true 3 (.t 9))),(some (116,false)),140737488355327⟩, ⟨(some 118),(.q (.ld true 3 (.t 11))),(some (116,false)),140737488355327⟩, ⟨(some 119),(.q (.ld true 3 (.t 13))),(some (116,false)),140737488355327⟩, ⟨(some 120),(.x (.call (.c (.fn 20 [] [])) [(.t 118),(.t 119)])),(some (116,false)),985162418487295⟩, ⟨(some 121),(.x (.call (.c (.fn 35 [] [])) [(.t 117),(.t 120)])),(some (116,false)),2251799813685247⟩, ⟨(some 122),(.q (.ld true 3 (.t 9))),(some (116,false)),140737488355327⟩, ⟨(some 123),(.q (.ld true 3 (.t 11))),(some (116,false)),140737488355327⟩, ⟨(some 124),(.x (.call (.c (.fn 35 [] [])) [(.t 122),(.t 123)])),(some (116,false)),18014398509481983⟩, ⟨(some 125),(.q (.ld true 3 (.t 9))),(some (116,false)),140737488355327⟩, ⟨(some 126),(.q (.ld true 3 (.t 13))),(some (116,false)),140737488355327⟩, ⟨(some 127),(.x (.call (.c (.fn 35 [] [])) [(.t 125),(.t 126)])),(some (116,false)),144115188075855871⟩, ⟨(some 128),(.x (.call (.c (.fn 20 [] [])) [(.t 124),(.t 127)])),(some (116,false)),288230376151711743⟩, ⟨(some 129),(.x (.call (.c (.fn 14 [] [])) [(.t 121),(.t 128)])),(some (116,false)),576460752303423487⟩, ⟨(some 130),(.q (.un .not (.t 129))),(some (116,false)),1152921504606846975⟩, ⟨(some 131),(.q (.pick (.t 116) (.c (.bool true)) (.t 130))),none,2305843009213693951⟩]) A S Q := by
  have ip : InBound p := bp.inBound (by decide)
  have iq : InBound q := bq.inBound (by decide)
  have ir : InBound r := br.inBound (by decide)
  have b_pq : Bnd 17 (p + q) := (bp.add bq).mono (by decide)
  have b_qp : Bnd 17 (q + p) := (bq.add bp).mono (by decide)
  have b_qr : Bnd 17 (q + r) := (bq.add br).mono (by decide)
  have m_pq : Bnd 16 (p * q) := (bp.mul bq).mono (by decide)
  have m_qp : Bnd 16 (q * p) := (bq.mul bp).mono (by decide)
  have m_qr : Bnd 16 (q * r) := (bq.mul br).mono (by decide)
  have m_pr : Bnd 16 (p * r) := (bp.mul br).mono (by decide)
  have x1 : Bnd 26 (p + q + r) := (b_pq.add br).mono (by decide)
  have x2 : Bnd 26 (p + (q + r)) := (bp.add b_qr).mono (by decide)
  have x3 : Bnd 24 (p * q * r) := (m_pq.mul br).mono (by decide)
  have x4 : Bnd 24 (p * (q * r)) := (bp.mul m_qr).mono (by decide)
  have x5 : Bnd 25 (p * (q + r)) := (bp.mul b_qr).mono (by decide)
  have x6 : Bnd 33 (p * q + p * r) := (m_pq.add m_pr).mono (by decide)
  refine wpc_drd1 (fun _ => False) ?_
  intro S0 e0

  try simp only [↓stU, stD, Nat.reduceEqDiff, ↓reduceIte, reduceCtorEq, ↓stV, stW, Nat.reduceAdd, p9, p11, p13, ld3 gA, ld3 gB, ld3 gC, ltA, ltB, ltC, not_false_eq_true, self_rat hA, self_rat hB, self_rat hC, un_not, Bool.not_true]
  refine runD_call0 rfl ?_
  try simp only [↓stU, stD, Nat.reduceEqDiff, ↓reduceIte, reduceCtorEq, ↓stV, stW, Nat.reduceAdd]
  refine wpf_mono (sum_spec H (hL.same e0) (hA.same e0) (hB.same e0) ip iq (b_pq.inBound (by decide))) ?_
  rintro v1 S1 ⟨h_v1, s1⟩
  refine ⟨s1, ?_⟩
  have e1 := e0.trans s1
  try simp only [↓stU, stD, Nat.reduceEqDiff, ↓reduceIte, reduceCtorEq, ↓stV, stW, Nat.reduceAdd, p9, p11, p13, ld3 gA, ld3 gB, ld3 gC, ltA, ltB, ltC, not_false_eq_true, self_rat hA, self_rat hB, self_rat hC, un_not, Bool.not_true]
  refine runD_call0 rfl ?_
  try simp only [↓stU, stD, Nat.reduceEqDiff, ↓reduceIte, reduceCtorEq, ↓stV, stW, Nat.reduceAdd]
  refine wpf_mono (sum_spec H (hL.same e1) (hB.same e1) (hA.same e1) iq ip (b_qp.inBound (by decide))) ?_
  rintro v2 S2 ⟨h_v2, s2⟩
  refine ⟨s2, ?_⟩
  have e2 := e1.trans s2
  try simp only [↓stU, stD, Nat.reduceEqDiff, ↓reduceIte, reduceCtorEq, ↓stV, stW, Nat.reduceAdd, p9, p11, p13, ld3 gA, ld3 gB, ld3 gC, ltA, ltB, ltC, not_false_eq_true, self_rat hA, self_rat hB, self_rat hC, un_not, Bool.not_true]
  refine runD_call0 rfl ?_
  try simp only [↓stU, stD, Nat.reduceEqDiff, ↓reduceIte, reduceCtorEq, ↓stV, stW, Nat.reduceAdd]
  refine wpf_mono (sameRat_spec H (h_v1.same s2) h_v2 (InBound.half (b_pq.inBound (by decide))).fits) ?_
  rintro _ S3 ⟨rfl, s3⟩
  refine ⟨s3, ?_⟩
  have e3 := e2.trans s3
  rw [decide_eq_true (show p + q = q + p from Rat.add_comm p q)]
  try simp only [↓stU, stD, Nat.reduceEqDiff, ↓reduceIte, reduceCtorEq, ↓stV, stW, Nat.reduceAdd, p9, p11, p13, ld3 gA, ld3 gB, ld3 gC, ltA, ltB, ltC, not_false_eq_true, self_rat hA, self_rat hB, self_rat hC, un_not, Bool.not_true]
  refine runD_call0 rfl ?_
  try simp only [↓stU, stD, Nat.reduceEqDiff, ↓reduceIte, reduceCtorEq, ↓stV, stW, Nat.reduceAdd]
  refine wpf_mono (product_spec H (hL.same e3) (hA.same e3) (hB.same e3) ip iq (m_pq.inBound (by decide))) ?_
  rintro v3 S4 ⟨h_v3, s4⟩
  refine ⟨s4, ?_⟩
  have e4 := e3.trans s4
  try simp only [↓stU, stD, Nat.reduceEqDiff, ↓reduceIte, reduceCtorEq, ↓stV, stW, Nat.reduceAdd, p9, p11, p13, ld3 gA, ld3 gB, ld3 gC, ltA, ltB, ltC, not_false_eq_true, self_rat hA, self_rat hB, self_rat hC, un_not, Bool.not_true]
  refine runD_call0 rfl ?_
  try simp only [↓stU, stD, Nat.reduceEqDiff, ↓reduceIte, reduceCtorEq, ↓stV, stW, Nat.reduceAdd]
  refine wpf_mono (product_spec H (hL.same e4) (hB.same e4) (hA.same e4) iq ip (m_qp.inBound (by decide))) ?_
  rintro v4 S5 ⟨h_v4, s5⟩
  refine ⟨s5, ?_⟩
  have e5 := e4.trans s5
  try simp only [↓stU, stD, Nat.reduceEqDiff, ↓reduceIte, reduceCtorEq, ↓stV, stW, Nat.reduceAdd, p9, p11, p13, ld3 gA, ld3 gB, ld3 gC, ltA, ltB, ltC, not_false_eq_true, self_rat hA, self_rat hB, self_rat hC, un_not, Bool.not_true]
  refine runD_call0 rfl ?_
  try simp only [↓stU, stD, Nat.reduceEqDiff, ↓reduceIte, reduceCtorEq, ↓stV, stW, Nat.reduceAdd]
  refine wpf_mono (sameRat_spec H (h_v3.same s5) h_v4 (InBound.half (m_pq.inBound (by decide))).fits) ?_
  rintro _ S6 ⟨rfl, s6⟩
  refine ⟨s6, ?_⟩
  have e6 := e5.trans s6
  rw [decide_eq_true (show p * q = q * p from Rat.mul_comm p q)]
  try simp only [↓stU, stD, Nat.reduceEqDiff, ↓reduceIte, reduceCtorEq, ↓stV, stW, Nat.reduceAdd, p9, p11, p13, ld3 gA, ld3 gB, ld3 gC, ltA, ltB, ltC, not_false_eq_true, self_rat hA, self_rat hB, self_rat hC, un_not, Bool.not_true]
  refine runD_call0 rfl ?_
  try simp only [↓stU, stD, Nat.reduceEqDiff, ↓reduceIte, reduceCtorEq, ↓stV, stW, Nat.reduceAdd]
  refine wpf_mono (sum_spec H (hL.same e6) (hA.same e6) (hB.same e6) ip iq (b_pq.inBound (by decide))) ?_
  rintro v5 S7 ⟨h_v5, s7⟩
  refine ⟨s7, ?_⟩
  have e7 := e6.trans s7
  try simp only [↓stU, stD, Nat.reduceEqDiff, ↓reduceIte, reduceCtorEq, ↓stV, stW, Nat.reduceAdd, p9, p11, p13, ld3 gA, ld3 gB, ld3 gC, ltA, ltB, ltC, not_false_eq_true, self_rat hA, self_rat hB, self_rat hC, un_not, Bool.not_true]
  refine runD_call0 rfl ?_
  try simp only [↓stU, stD, Nat.reduceEqDiff, ↓reduceIte, reduceCtorEq, ↓stV, stW, Nat.reduceAdd]
  refine wpf_mono (sum_spec H (hL.same e7) h_v5 (hC.same e7) (b_pq.inBound (by decide)) ir (x1.inBound (by decide))) ?_
  rintro v6 S8 ⟨h_v6, s8⟩
  refine ⟨s8, ?_⟩
  have e8 := e7.trans s8
  try simp only [↓stU, stD, Nat.reduceEqDiff, ↓reduceIte, reduceCtorEq, ↓stV, stW, Nat.reduceAdd, p9, p11, p13, ld3 gA, ld3 gB, ld3 gC, ltA, ltB, ltC, not_false_eq_true, self_rat hA, self_rat hB, self_rat hC, un_not, Bool.not_true]
  refine runD_call0 rfl ?_
  try simp only [↓stU, stD, Nat.reduceEqDiff, ↓reduceIte, reduceCtorEq, ↓stV, stW, Nat.reduceAdd]
  refine wpf_mono (sum_spec H (hL.same e8) (hB.same e8) (hC.same e8) iq ir (b_qr.inBound (by decide))) ?_
  rintro v7 S9 ⟨h_v7, s9⟩
  refine ⟨s9, ?_⟩
  have e9 := e8.trans s9
  try simp only [↓stU, stD, Nat.reduceEqDiff, ↓reduceIte, reduceCtorEq, ↓stV, stW, Nat.reduceAdd, p9, p11, p13, ld3 gA, ld3 gB, ld3 gC, ltA, ltB, ltC, not_false_eq_true, self_rat hA, self_rat hB, self_rat hC, un_not, Bool.not_true]
  refine runD_call0 rfl ?_
  try simp only [↓stU, stD, Nat.reduceEqDiff, ↓reduceIte, reduceCtorEq, ↓stV, stW, Nat.reduceAdd]
  refine wpf_mono (sum_spec H (hL.same e9) (hA.same e9) h_v7 ip (b_qr.inBound (by decide)) (x2.inBound (by decide))) ?_
  rintro v8 S10 ⟨h_v8, s10⟩
  refine ⟨s10, ?_⟩
  have e10 := e9.trans s10
  try simp only [↓stU, stD, Nat.reduceEqDiff, ↓reduceIte, reduceCtorEq, ↓stV, stW, Nat.reduceAdd, p9, p11, p13, ld3 gA, ld3 gB, ld3 gC, ltA, ltB, ltC, not_false_eq_true, self_rat hA, self_rat hB, self_rat hC, un_not, Bool.not_true]
  refine runD_call0 rfl ?_
  try simp only [↓stU, stD, Nat.reduceEqDiff, ↓reduceIte, reduceCtorEq, ↓stV, stW, Nat.reduceAdd]
  refine wpf_mono (sameRat_spec H (h_v6.same (s9.trans s10)) h_v8 (InBound.half (x1.inBound (by decide))).fits) ?_
  rintro _ S11 ⟨rfl, s11⟩
  refine ⟨s11, ?_⟩
  have e11 := e10.trans s11
  rw [decide_eq_true (show p + q + r = p + (q + r) from Rat.add_assoc p q r)]
  try simp only [↓stU, stD, Nat.reduceEqDiff, ↓reduceIte, reduceCtorEq, ↓stV, stW, Nat.reduceAdd, p9, p11, p13, ld3 gA, ld3 gB, ld3 gC, ltA, ltB, ltC, not_false_eq_true, self_rat hA, self_rat hB, self_rat hC, un_not, Bool.not_true]
  refine runD_call0 rfl ?_
  try simp only [↓stU, stD, Nat.reduceEqDiff, ↓reduceIte, reduceCtorEq, ↓stV, stW, Nat.reduceAdd]
  refine wpf_mono (product_spec H (hL.same e11) (hA.same e11) (hB.same e11) ip iq (m_pq.inBound (by decide))) ?_
  rintro v9 S12 ⟨h_v9, s12⟩
  refine ⟨s12, ?_⟩
  have e12 := e11.trans s12
  try simp only [↓stU, stD, Nat.reduceEqDiff, ↓reduceIte, reduceCtorEq, ↓stV, stW, Nat.reduceAdd, p9, p11, p13, ld3 gA, ld3 gB, ld3 gC, ltA, ltB, ltC, not_false_eq_true, self_rat hA, self_rat hB, self_rat hC, un_not, Bool.not_true]
  refine runD_call0 rfl ?_
  try simp only [↓stU, stD, Nat.reduceEqDiff, ↓reduceIte, reduceCtorEq, ↓stV, stW, Nat.reduceAdd]
  refine wpf_mono (product_spec H (hL.same e12) h_v9 (hC.same e12) (m_pq.inBound (by decide)) ir (x3.inBound (by decide))) ?_
  rintro v10 S13 ⟨h_v10, s13⟩
  refine ⟨s13, ?_⟩
  have e13 := e12.trans s13
  try simp only [↓stU, stD, Nat.reduceEqDiff, ↓reduceIte, reduceCtorEq, ↓stV, stW, Nat.reduceAdd, p9, p11, p13, ld3 gA, ld3 gB, ld3 gC, ltA, ltB, ltC, not_false_eq_true, self_rat hA, self_rat hB, self_rat hC, un_not, Bool.not_true]
  refine runD_call0 rfl ?_
  try simp only [↓stU, stD, Nat.reduceEqDiff, ↓reduceIte, reduceCtorEq, ↓stV, stW, Nat.reduceAdd]
  refine wpf_mono (product_spec H (hL.same e13) (hB.same e13) (hC.same e13) iq ir (m_qr.inBound (by decide))) ?_
  rintro v11 S14 ⟨h_v11, s14⟩
  refine ⟨s14, ?_⟩
  have e14 := e13.trans s14
  try simp only [↓stU, stD, Nat.reduceEqDiff, ↓reduceIte, reduceCtorEq, ↓stV, stW, Nat.reduceAdd, p9, p11, p13, ld3 gA, ld3 gB, ld3 gC, ltA, ltB, ltC, not_false_eq_true, self_rat hA, self_rat hB, self_rat hC, un_not, Bool.not_true]
  refine runD_call0 rfl ?_
  try simp only [↓stU, stD, Nat.reduceEqDiff, ↓reduceIte, reduceCtorEq, ↓stV, stW, Nat.reduceAdd]
  refine wpf_mono (product_spec H (hL.same e14) (hA.same e14) h_v11 ip (m_qr.inBound (by decide)) (x4.inBound (by decide))) ?_
  rintro v12 S15 ⟨h_v12, s15⟩
  refine ⟨s15, ?_⟩
  have e15 := e14.trans s15
  try simp only [↓stU, stD, Nat.reduceEqDiff, ↓reduceIte, reduceCtorEq, ↓stV, stW, Nat.reduceAdd, p9, p11, p13, ld3 gA, ld3 gB, ld3 gC, ltA, ltB, ltC, not_false_eq_true, self_rat hA, self_rat hB, self_rat hC, un_not, Bool.not_true]
  refine runD_call0 rfl ?_
  try simp only [↓stU, stD, Nat.reduceEqDiff, ↓reduceIte, reduceCtorEq, ↓stV, stW, Nat.reduceAdd]
  refine wpf_mono (sameRat_spec H (h_v10.same (s14.trans s15)) h_v12 (InBound.half (x3.inBound (by decide))).fits) ?_
  rintro _ S16 ⟨rfl, s16⟩
  refine ⟨s16, ?_⟩
  have e16 := e15.trans s16
  rw [decide_eq_true (show p * q * r = p * (q * r) from Rat.mul_assoc p q r)]
  try simp only [↓stU, stD, Nat.reduceEqDiff, ↓reduceIte, reduceCtorEq, ↓stV, stW, Nat.reduceAdd, p9, p11, p13, ld3 gA, ld3 gB, ld3 gC, ltA, ltB, ltC, not_false_eq_true, self_rat hA, self_rat hB, self_rat hC, un_not, Bool.not_true]
  refine runD_call0 rfl ?_
  try simp only [↓stU, stD, Nat.reduceEqDiff, ↓reduceIte, reduceCtorEq, ↓stV, stW, Nat.reduceAdd]
  refine wpf_mono (sum_spec H (hL.same e16) (hB.same e16) (hC.same e16) iq ir (b_qr.inBound (by decide))) ?_
  rintro v13 S17 ⟨h_v13, s17⟩
  refine ⟨s17, ?_⟩
  have e17 := e16.trans s17
  try simp only [↓stU, stD, Nat.reduceEqDiff, ↓reduceIte, reduceCtorEq, ↓stV, stW, Nat.reduceAdd, p9, p11, p13, ld3 gA, ld3 gB, ld3 gC, ltA, ltB, ltC, not_false_eq_true, self_rat hA, self_rat hB, self_rat hC, un_not, Bool.not_true]
  refine runD_call0 rfl ?_
  try simp only [↓stU, stD, Nat.reduceEqDiff, ↓reduceIte, reduceCtorEq, ↓stV, stW, Nat.reduceAdd]
  refine wpf_mono (product_spec H (hL.same e17) (hA.same e17) h_v13 ip (b_qr.inBound (by decide)) (x5.inBound (by decide))) ?_
  rintro v14 S18 ⟨h_v14, s18⟩
  refine ⟨s18, ?_⟩
  have e18 := e17.trans s18
  try simp only [↓stU, stD, Nat.reduceEqDiff, ↓reduceIte, reduceCtorEq, ↓stV, stW, Nat.reduceAdd, p9, p11, p13, ld3 gA, ld3 gB, ld3 gC, ltA, ltB, ltC, not_false_eq_true, self_rat hA, self_rat hB, self_rat hC, un_not, Bool.not_true]
  refine runD_call0 rfl ?_
  try simp only [↓stU, stD, Nat.reduceEqDiff, ↓reduceIte, reduceCtorEq, ↓stV, stW, Nat.reduceAdd]
  refine wpf_mono (product_spec H (hL.same e18) (hA.same e18) (hB.same e18) ip iq (m_pq.inBound (by decide))) ?_
  rintro v15 S19 ⟨h_v15, s19⟩
  refine ⟨s19, ?_⟩
  have e19 := e18.trans s19
  try simp only [↓stU, stD, Nat.reduceEqDiff, ↓reduceIte, reduceCtorEq, ↓stV, stW, Nat.reduceAdd, p9, p11, p13, ld3 gA, ld3 gB, ld3 gC, ltA, ltB, ltC, not_false_eq_true, self_rat hA, self_rat hB, self_rat hC, un_not, Bool.not_true]
  refine runD_call0 rfl ?_
  try simp only [↓stU, stD, Nat.reduceEqDiff, ↓reduceIte, reduceCtorEq, ↓stV, stW, Nat.reduceAdd]
  refine wpf_mono (product_spec H (hL.same e19) (hA.same e19) (hC.same e19) ip ir (m_pr.inBound (by decide))) ?_
  rintro v16 S20 ⟨h_v16, s20⟩
  refine ⟨s20, ?_⟩
  have e20 := e19.trans s20
  try simp only [↓stU, stD, Nat.reduceEqDiff, ↓reduceIte, reduceCtorEq, ↓stV, stW, Nat.reduceAdd, p9, p11, p13, ld3 gA, ld3 gB, ld3 gC, ltA, ltB, ltC, not_false_eq_true, self_rat hA, self_rat hB, self_rat hC, un_not, Bool.not_true]
  refine runD_call0 rfl ?_
  try simp only [↓stU, stD, Nat.reduceEqDiff, ↓reduceIte, reduceCtorEq, ↓stV, stW, Nat.reduceAdd]
  refine wpf_mono (sum_spec H (hL.same e20) (h_v15.same s20) h_v16 (m_pq.inBound (by decide)) (m_pr.inBound (by decide)) (x6.inBound (by decide))) ?_
  rintro v17 S21 ⟨h_v17, s21⟩
  refine ⟨s21, ?_⟩
  have e21 := e20.trans s21
  try simp only [↓stU, stD, Nat.reduceEqDiff, ↓reduceIte, reduceCtorEq, ↓stV, stW, Nat.reduceAdd, p9, p11, p13, ld3 gA, ld3 gB, ld3 gC, ltA, ltB, ltC, not_false_eq_true, self_rat hA, self_rat hB, self_rat hC, un_not, Bool.not_true]
  refine runD_call0 rfl ?_
  try simp only [↓stU, stD, Nat.reduceEqDiff, ↓reduceIte, reduceCtorEq, ↓stV, stW, Nat.reduceAdd]
  refine wpf_mono (sameRat_spec H (h_v14.same ((s19.trans s20).trans s21)) h_v17 (InBound.half (x5.inBound (by decide))).fits) ?_
  rintro _ S22 ⟨rfl, s22⟩
  refine ⟨s22, ?_⟩
  have e22 := e21.trans s22
  rw [decide_eq_true (show p * (q + r) = p * q + p * r from Rat.mul_add p q r)]
  simp only [↓stU, stD, Nat.reduceEqDiff, ↓reduceIte, reduceCtorEq, ↓stV, stW, Nat.reduceAdd, p9, p11, p13, ld3 gA, ld3 gB, ld3 gC, ltA, ltB, ltC, not_false_eq_true, self_rat hA, self_rat hB, self_rat hC, un_not, Bool.not_true]
  exact hQ _ _ e22 (by simp only [↓stU, stD, Nat.reduceEqDiff, ↓reduceIte, reduceCtorEq, ↓stV, stW, Nat.reduceAdd, p9]) (by simp only [↓stU, stD, Nat.reduceEqDiff, ↓reduceIte, reduceCtorEq, ↓stV, stW, Nat.reduceAdd, p11]) (by simp only [↓stU, stD, Nat.reduceEqDiff, ↓reduceIte, reduceCtorEq, ↓stV, stW, Nat.reduceAdd, p13]) (by simp only [↓stU, stD, Nat.reduceEqDiff, ↓reduceIte, reduceCtorEq, ↓stV, stW, Nat.reduceAdd])
end Go.Ev.Gl

namespace Go.Ev.Gl
variable {fns : T AFn}

/-- one of the three numbers: the sign, the number, its cell -/
theorem sub_back (p q : Rat) : p + q + -q = p := by grind
theorem div_back (p q : Rat) (h : q.num ≠ 0) : p * q * q⁻¹ = p := by
  have : q ≠ 0 := fun e => h (by rw [e]; rfl)
  grind

set_option maxRecDepth 10000 in
set_option maxHeartbeats 4000000 in
theorem field_spec {S : St} {kv lv mv : AV} {k l m : List Nat} {sv : Int} (H : Has fns) (hL : Laid S) (hF : Fresh S) (hAw : ∀ S, Laid S → wpf fns (.fn 11 [] []) [] S fun r S' => r = .bool true ∧ Same S S')
    (hk : LimbIs S kv k) (hl : LimbIs S lv l) (hm : LimbIs S mv m) : wpf fns (.fn 7 [] []) [kv, lv, mv, .int .i64 sv] S fun r S' => r = .bool true ∧ Same S S' := by
  refine wpf_fn H.f7 (by simp) ?_
  simp only [↓stU, stD, Nat.reduceEqDiff, ↓reduceIte, reduceCtorEq]
  refine wpc_seq (wpc_reg ?_)
  simp only [↓stU, stD, Nat.reduceEqDiff, ↓reduceIte, reduceCtorEq]
  refine wpc_seq (wpc_seq (wpc_mono (Q := fun o A' S' => o = .normal ∧ S' = S ∧ A'.inr = false ∧ tmpV 0 A'.F = kv ∧ tmpV 1 A'.F = lv ∧ tmpV 2 A'.F = mv ∧ tmpV 3 A'.F = .int .i64 sv ∧ tmpV 29 A'.F = .bool (decide (8 < k.length ∨ 8 < l.length ∨ 8 < m.length))) ?_ ?_))
  · refine wpc_reg ?_
    by_cases h1 : 8 < k.length
    · have d1 : decide ((8 : Int) < ((k.length : Nat) : Int)) = true := decide_eq_true (by omega)
      simp only [↓stU, stD, Nat.reduceEqDiff, ↓reduceIte, reduceCtorEq, hk.len, d1]
      simp [h1]
    · have d1 : decide ((8 : Int) < ((k.length : Nat) : Int)) = false := decide_eq_false (by omega)
      by_cases h2 : 8 < l.length
      · have d2 : decide ((8 : Int) < ((l.length : Nat) : Int)) = true := decide_eq_true (by omega)
        simp only [↓stU, stD, Nat.reduceEqDiff, ↓reduceIte, reduceCtorEq, hk.len, hl.len, d1, d2]
        simp [h2]
      · have d2 : decide ((8 : Int) < ((l.length : Nat) : Int)) = false := decide_eq_false (by omega)
        simp only [↓stU, stD, Nat.reduceEqDiff, ↓reduceIte, reduceCtorEq, hk.len, hl.len, hm.len, d1, d2]
        by_cases h3 : 8 < m.length
        · have d3 : decide ((8 : Int) < ((m.length : Nat) : Int)) = true := decide_eq_true (by omega)
          simp [d3, h3]
        · have d3 : decide ((8 : Int) < ((m.length : Nat) : Int)) = false := decide_eq_false (by omega)
          simp [d3, h1, h2, h3]
  rintro o ⟨F, inr⟩ S' ⟨rfl, hS', q0, p0, p1, p2, p3, p29⟩
  simp only at q0 p0 p1 p2 p3 p29
  subst q0
  rw [hS']
  try simp only [↓stU, stD, Nat.reduceEqDiff, ↓reduceIte, reduceCtorEq]
  by_cases hlong : 8 < k.length ∨ 8 < l.length ∨ 8 < m.length
  · refine wpc_if (t := true) (by simp only [↓stU, stD, Nat.reduceEqDiff, ↓reduceIte, reduceCtorEq, p29, decide_eq_true hlong]) (fun _ => ?_) (fun h => by cases h)
    refine wpc_seq (wpc_reg ?_)
    refine wpo_call ?_
    simp only [↓stU, stD, Nat.reduceEqDiff, ↓reduceIte, reduceCtorEq]
    refine wpf_mono (hAw S hL) ?_
    rintro _ S1 ⟨rfl, hS1⟩
    try simp only [↓stU, stD, Nat.reduceEqDiff, ↓reduceIte, reduceCtorEq]
    refine wpc_ret ?_
    simp only [↓stU, stD, Nat.reduceEqDiff, ↓reduceIte, reduceCtorEq]
    exact hS1
  refine wpc_if (t := false) (by simp only [↓stU, stD, Nat.reduceEqDiff, ↓reduceIte, reduceCtorEq, p29, decide_eq_false hlong]) (fun h => by cases h) (fun _ => wpc_skip ?_)
  simp only [↓stU, stD, Nat.reduceEqDiff, ↓reduceIte, reduceCtorEq]
  have n2 : (2 : Int) ≠ 0 := by decide
  -- the first number
  refine wpc_seq (wpc_reg ?_)
  simp only [↓stU, stD, Nat.reduceEqDiff, ↓reduceIte, reduceCtorEq, p0, p1, p3]
  refine wpo_call ?_
  simp only [↓stU, stD, Nat.reduceEqDiff, ↓reduceIte, reduceCtorEq]
  refine wpf_mono (mod_spec H n2) ?_
  rintro _ T ⟨⟨z1, rfl⟩, hT⟩
  rw [hT]
  simp only [↓stU, stD, Nat.reduceEqDiff, ↓reduceIte, reduceCtorEq]
  refine wpo_call ?_
  simp only [↓stU, stD, Nat.reduceEqDiff, ↓reduceIte, reduceCtorEq]
  refine wpf_mono (wpf_fresh (number_spec (neg := decide (z1 = 1)) H hL hk hl (by omega) (by omega))) ?_
  rintro _ S1 ⟨⟨a, p, rfl, hA, bp, hS1⟩, fr1⟩
  obtain ⟨a0, a1, a2, rfl⟩ := hA.cells
  simp only [↓stU, stD, Nat.reduceEqDiff, ↓reduceIte, reduceCtorEq, ex0, ex1]
  refine wpo_allocF ?_
  intro S2 hS2 hn2 hc2 fr2
  refine wpo_stF (b := S1.nx) (by simp only [↓stU, stD, Nat.reduceEqDiff, ↓reduceIte, reduceCtorEq]) (by simp only [↓stU, stD, Nat.reduceEqDiff, ↓reduceIte, reduceCtorEq, cells_agg]; rfl) hc2 rfl rfl ?_
  intro S3 hS3 hn3 hc3 fr3
  simp only [↓stU, stD, Nat.reduceEqDiff, ↓reduceIte, reduceCtorEq]
  have s13 : Same S1 S3 := hS3.same hS2 (Nat.le_refl _)
  have e3 := hS1.trans s13
  -- the second number
  refine wpc_seq (wpc_reg ?_)
  simp only [↓stU, stD, Nat.reduceEqDiff, ↓reduceIte, reduceCtorEq, p1, p2, p3, bin_quo_t (.p .int) n2]
  refine wpo_call ?_
  simp only [↓stU, stD, Nat.reduceEqDiff, ↓reduceIte, reduceCtorEq]
  refine wpf_mono (mod_spec H n2) ?_
  rintro _ T ⟨⟨z2, rfl⟩, hT⟩
  rw [hT]
  simp only [↓stU, stD, Nat.reduceEqDiff, ↓reduceIte, reduceCtorEq]
  refine wpo_call ?_
  simp only [↓stU, stD, Nat.reduceEqDiff, ↓reduceIte, reduceCtorEq]
  refine wpf_mono (wpf_fresh (number_spec (neg := decide (z2 = 1)) H (hL.same e3) (hl.same e3) (hm.same e3) (by omega) (by omega))) ?_
  rintro _ S4 ⟨⟨b, q, rfl, hB, bq, hS4⟩, fr4⟩
  obtain ⟨b0, b1, b2, rfl⟩ := hB.cells
  simp only [↓stU, stD, Nat.reduceEqDiff, ↓reduceIte, reduceCtorEq, ex0, ex1]
  refine wpo_allocF ?_
  intro S5 hS5 hn5 hc5 fr5
  refine wpo_stF (b := S4.nx) (by simp only [↓stU, stD, Nat.reduceEqDiff, ↓reduceIte, reduceCtorEq]) (by simp only [↓stU, stD, Nat.reduceEqDiff, ↓reduceIte, reduceCtorEq, cells_agg]; rfl) hc5 rfl rfl ?_
  intro S6 hS6 hn6 hc6 fr6
  simp only [↓stU, stD, Nat.reduceEqDiff, ↓reduceIte, reduceCtorEq]
  have s46 : Same S4 S6 := hS6.same hS5 (Nat.le_refl _)
  have e6 := e3.trans (hS4.trans s46)
  -- the third number
  have n4 : (4 : Int) ≠ 0 := by decide
  refine wpc_seq (wpc_reg ?_)
  simp only [↓stU, stD, Nat.reduceEqDiff, ↓reduceIte, reduceCtorEq, p0, p2, p3, bin_quo_t (.p .int) n4]
  refine wpo_call ?_
  simp only [↓stU, stD, Nat.reduceEqDiff, ↓reduceIte, reduceCtorEq]
  refine wpf_mono (mod_spec H n2) ?_
  rintro _ T ⟨⟨z3, rfl⟩, hT⟩
  rw [hT]
  simp only [↓stU, stD, Nat.reduceEqDiff, ↓reduceIte, reduceCtorEq]
  refine wpo_call ?_
  simp only [↓stU, stD, Nat.reduceEqDiff, ↓reduceIte, reduceCtorEq]
  refine wpf_mono (wpf_fresh (number_spec (neg := decide (z3 = 1)) H (hL.same e6) (hm.same e6) (hk.same e6) (by omega) (by omega))) ?_
  rintro _ S7 ⟨⟨c, r, rfl, hC, br, hS7⟩, fr7⟩
  obtain ⟨c0, c1, c2, rfl⟩ := hC.cells
  simp only [↓stU, stD, Nat.reduceEqDiff, ↓reduceIte, reduceCtorEq, ex0, ex1]
  refine wpo_allocF ?_
  intro S8 hS8 hn8 hc8 fr8
  refine wpo_stF (b := S7.nx) (by simp only [↓stU, stD, Nat.reduceEqDiff, ↓reduceIte, reduceCtorEq]) (by simp only [↓stU, stD, Nat.reduceEqDiff, ↓reduceIte, reduceCtorEq, cells_agg]; rfl) hc8 rfl rfl ?_
  intro S9 hS9 hn9 hc9 fr9
  simp only [↓stU, stD, Nat.reduceEqDiff, ↓reduceIte, reduceCtorEq]
  have s79 : Same S7 S9 := hS9.same hS8 (Nat.le_refl _)
  have s39 := (hS4.trans s46).trans (hS7.trans s79)
  have s69 := hS7.trans s79
  have e9 := e3.trans s39
  have hF9 : Fresh S9 := fr9.1 (fr8.1 (fr7.1 (fr6.1 (fr5.1 (fr4.1 (fr3.1 (fr2.1 (fr1.1 hF))))))))
  have l34 := hS4.1
  have l67 := hS7.1
  have gA : S9.h.get S1.nx = some (.cells [a0, a1, a2] false 0) := by rw [s39.2 _ (by omega)]; exact hc3
  have gB : S9.h.get S4.nx = some (.cells [b0, b1, b2] false 0) := by rw [s69.2 _ (by omega)]; exact hc6
  have hA9 := hA.same (s13.trans s39)
  have hB9 := hB.same (s46.trans s69)
  have hC9 := hC.same s79
  have ltA : S1.nx < S9.nx := by omega
  have ltB : S4.nx < S9.nx := by omega
  have ltC : S7.nx < S9.nx := by omega
  -- all three are valid
  refine wpc_seq (wpc_seq (wpc_reg ?_))
  simp only [↓stU, stD, Nat.reduceEqDiff, ↓reduceIte, reduceCtorEq, un_not, Bool.not_true]
  refine wpc_if (t := false) (by simp only [↓stU, stD, Nat.reduceEqDiff, ↓reduceIte, reduceCtorEq]) (fun h => by cases h) (fun _ => wpc_skip ?_)
  simp only [↓stU, stD, Nat.reduceEqDiff, ↓reduceIte, reduceCtorEq]
  -- the laws of a ring
  refine wpc_seq (wpc_seq (wpc_mono (wpc_fresh (field_one (Q := fun o A' S' => o = .normal ∧ A'.inr = false ∧ Same S9 S' ∧ tmpV 9 A'.F = .ptr S1.nx 0 ∧ tmpV 11 A'.F = .ptr S4.nx 0 ∧ tmpV 13 A'.F = .ptr S7.nx 0 ∧ tmpV 131 A'.F = .bool false) H (hL.same e9) hA9 hB9 hC9 bp bq br gA gB hc9 ltA ltB ltC (by simp only [↓stU, stD, Nat.reduceEqDiff, ↓reduceIte, reduceCtorEq]) (by simp only [↓stU, stD, Nat.reduceEqDiff, ↓reduceIte, reduceCtorEq]) (by simp only [↓stU, stD, Nat.reduceEqDiff, ↓reduceIte, reduceCtorEq]) (fun F' S' h1 h2 h3 h4 h5 => ⟨rfl, rfl, h1, h2, h3, h4, h5⟩))) ?_))
  rintro o ⟨F, inr⟩ S10 ⟨⟨rfl, q0, s10, p9, p11, p13, p131⟩, fr10⟩
  simp only at q0 p9 p11 p13 p131
  subst q0
  try simp only [↓stU, stD, Nat.reduceEqDiff, ↓reduceIte, reduceCtorEq]
  refine wpc_if (t := false) (by simp only [↓stU, stD, Nat.reduceEqDiff, ↓reduceIte, reduceCtorEq, p131]) (fun h => by cases h) (fun _ => wpc_skip ?_)
  simp only [↓stU, stD, Nat.reduceEqDiff, ↓reduceIte, reduceCtorEq]
  have hF10 : Fresh S10 := fr10.1 hF9
  have e10 := e9.trans s10
  have gA10 : S10.h.get S1.nx = some (.cells [a0, a1, a2] false 0) := by rw [s10.2 _ ltA]; exact gA
  have gB10 : S10.h.get S4.nx = some (.cells [b0, b1, b2] false 0) := by rw [s10.2 _ ltB]; exact gB
  have hA10 := hA9.same s10
  have hB10 := hB9.same s10
  have l10 := s10.1
  have ltA10 : S1.nx < S10.nx := by omega
  have ltB10 : S4.nx < S10.nx := by omega
  have ip : InBound p := bp.inBound (by decide)
  have iq : InBound q := bq.inBound (by decide)
  have i_pq : InBound (p + q) := (bp.add bq).inBound (by decide)
  have m_pq : InBound (p * q) := (bp.mul bq).inBound (by decide)
  -- a difference
  refine wpc_seq (wpc_mono (wpc_fresh (Q := fun o A' S' => o = .normal ∧ A'.inr = false ∧ Same S10 S' ∧ tmpV 9 A'.F = .ptr S1.nx 0 ∧ tmpV 11 A'.F = .ptr S4.nx 0 ∧ tmpV 15 A'.F = .ptr (S10.nx + 8) 0 ∧ tmpV 16 A'.F = .int .i64 0 ∧ S10.nx + 8 < S'.nx ∧ ∃ k0 k1 k2, S'.h.get (S10.nx + 8) = some (.cells [k0, k1, k2] false 0) ∧ RatIs S' (.agg [k0, k1, k2]) p) ?_) ?_)
  · refine wpc_drd2 (fun _ => False) ?_
    intro S11 s11 he11 hn11
    simp only [List.length_cons, List.length_nil, Nat.reduceAdd] at hn11
    have hF11 : Fresh S11 := fun b hb => by rw [he11]; exact hF10 b (by omega)
    simp only [↓stU, stD, Nat.reduceEqDiff, ↓reduceIte, reduceCtorEq, ↓stV, stW, Nat.reduceAdd, p9, p11, ld3 gA10, ld3 gB10, ltA10, ltB10, not_false_eq_true, self_rat hA, self_rat hB]
    refine runD_call0 rfl ?_
    try simp only [↓stU, stD, Nat.reduceEqDiff, ↓reduceIte, reduceCtorEq, ↓stV, stW, Nat.reduceAdd]
    have e11 := e10.trans s11
    refine wpf_mono (wpf_fresh (sum_spec H (hL.same e11) (hA10.same s11) (hB10.same s11) ip iq i_pq)) ?_
    rintro w1 S12 ⟨⟨hw1, s12⟩, fr12⟩
    refine ⟨s12, ?_⟩
    simp only [↓stU, stD, Nat.reduceEqDiff, ↓reduceIte, reduceCtorEq, ↓stV, stW, Nat.reduceAdd, p9, p11, ld3 gA10, ld3 gB10, ltA10, ltB10, not_false_eq_true, self_rat hA, self_rat hB]
    refine runD_call0 rfl ?_
    try simp only [↓stU, stD, Nat.reduceEqDiff, ↓reduceIte, reduceCtorEq, ↓stV, stW, Nat.reduceAdd]
    have e12 := e11.trans s12
    have hback := sub_back p q
    refine wpf_mono (wpf_fresh (rsub_spec H (hL.same e12) (fr12.1 hF11) hw1 (hB10.same (s11.trans s12)) i_pq iq (by rw [hback]; exact ip))) ?_
    rintro _ S13 ⟨⟨bk, rfl, hbk, s13'⟩, fr13⟩
    refine ⟨s13', ?_⟩
    rw [hback] at hbk
    obtain ⟨k0, k1, k2, rfl⟩ := hbk.cells
    simp only [↓stU, stD, Nat.reduceEqDiff, ↓reduceIte, reduceCtorEq, ↓stV, stW, Nat.reduceAdd, ex0, ex1, evA_alloc]
    have hnone : S13.h.get (S10.nx + 8) = none := by
      have := s12.1
      rw [s13'.2 _ (by omega), s12.2 _ (by omega), he11]; exact hF10 _ (by omega)
    have l13 := (s12.trans s13').1
    refine runD_st1 (by rfl) rfl (by simp only [↓stU, stD, Nat.reduceEqDiff, ↓reduceIte, reduceCtorEq, ↓stV, stW, Nat.reduceAdd]) (by simp only [↓stU, stD, Nat.reduceEqDiff, ↓reduceIte, reduceCtorEq, ↓stV, stW, Nat.reduceAdd, cells_agg]; rfl) rfl rfl (by omega) ?_
    intro S14 s14 hn14 hc14
    simp only [↓stU, stD, Nat.reduceEqDiff, ↓reduceIte, reduceCtorEq, ↓stV, stW, Nat.reduceAdd]
    have s1014 : Same S10 S14 := s14.same (s11.trans (s12.trans s13')) (by omega)
    exact ⟨s1014, p9, p11, by omega, k0, k1, k2, hc14, hbk.lay hnone s14⟩
  rintro o ⟨F, inr⟩ S14 ⟨⟨rfl, q0, s1014, p9, p11, p15, p16, lt15, k0, k1, k2, g15, hbk⟩, fr14⟩
  simp only at q0 p9 p11 p15 p16
  subst q0
  try simp only [↓stU, stD, Nat.reduceEqDiff, ↓reduceIte, reduceCtorEq]
  have hF14 : Fresh S14 := fr14.1 hF10
  have gA14 : S14.h.get S1.nx = some (.cells [a0, a1, a2] false 0) := by rw [s1014.2 _ ltA10]; exact gA10
  have gB14 : S14.h.get S4.nx = some (.cells [b0, b1, b2] false 0) := by rw [s1014.2 _ ltB10]; exact gB10
  have hA14 := hA10.same s1014
  have hB14 := hB10.same s1014
  have l14 := s1014.1
  have ltA14 : S1.nx < S14.nx := by omega
  have ltB14 : S4.nx < S14.nx := by omega
  have e14 := e10.trans s1014
  have d0 : decide ((0 : Int) ≠ 0) = false := rfl
  have o0 := fun (T : St) => of_spec' (S := T) (a := 0) (b := 1) H (by decide) (by decide) (by decide)
  have o1 := fun (T : St) => of_spec' (S := T) (a := 1) (b := 1) H (by decide) (by decide) (by decide)
  simp only [Int.natCast_one] at o0 o1
  rw [show mkRat 0 1 = 0 from rfl] at o0
  rw [show mkRat 1 1 = 1 from rfl] at o1
  -- zero and one
  refine wpc_seq (wpc_seq (wpc_mono (wpc_fresh (Q := fun o A' S' => o = .normal ∧ A'.inr = false ∧ Same S14 S' ∧ tmpV 9 A'.F = .ptr S1.nx 0 ∧ tmpV 11 A'.F = .ptr S4.nx 0 ∧ tmpV 15 A'.F = .ptr (S10.nx + 8) 0 ∧ tmpV 163 A'.F = .bool false) ?_) ?_))
  · refine wpc_drd1 (fun _ => False) ?_
    intro S15 s15
    simp only [↓stU, stD, Nat.reduceEqDiff, ↓reduceIte, reduceCtorEq, ↓stV, stW, Nat.reduceAdd, p9, p15, p16, d0, ld3 gA14, ld3 g15, ltA14, lt15, not_false_eq_true, self_rat hA, self_rat hbk]
    refine runD_call0 rfl ?_
    try simp only [↓stU, stD, Nat.reduceEqDiff, ↓reduceIte, reduceCtorEq, ↓stV, stW, Nat.reduceAdd]
    refine wpf_mono (sameRat_spec H (hbk.same s15) (hA14.same s15) ip.half.fits) ?_
    rintro _ S16 ⟨rfl, s16⟩
    refine ⟨s16, ?_⟩
    simp only [↓stU, stD, Nat.reduceEqDiff, ↓reduceIte, reduceCtorEq, ↓stV, stW, Nat.reduceAdd, p9, decide_true, un_not, Bool.not_true, ld3 gA14, ltA14, not_false_eq_true, self_rat hA]
    refine runD_call0 rfl ?_
    try simp only [↓stU, stD, Nat.reduceEqDiff, ↓reduceIte, reduceCtorEq, ↓stV, stW, Nat.reduceAdd]
    refine wpf_mono (o0 S16) ?_
    rintro zv S17 ⟨hz, s17⟩
    refine ⟨s17, ?_⟩
    try simp only [↓stU, stD, Nat.reduceEqDiff, ↓reduceIte, reduceCtorEq, ↓stV, stW, Nat.reduceAdd]
    refine runD_call0 rfl ?_
    try simp only [↓stU, stD, Nat.reduceEqDiff, ↓reduceIte, reduceCtorEq, ↓stV, stW, Nat.reduceAdd]
    have s1417 := s15.trans (s16.trans s17)
    refine wpf_mono (sum_spec H (hL.same (e14.trans s1417)) (hA14.same s1417) hz ip inBound_zero (by rw [Rat.add_zero]; exact ip)) ?_
    rintro w2 S18 ⟨hw2, s18⟩
    refine ⟨s18, ?_⟩
    simp only [↓stU, stD, Nat.reduceEqDiff, ↓reduceIte, reduceCtorEq, ↓stV, stW, Nat.reduceAdd, p9, ld3 gA14, ltA14, not_false_eq_true, self_rat hA]
    refine runD_call0 rfl ?_
    try simp only [↓stU, stD, Nat.reduceEqDiff, ↓reduceIte, reduceCtorEq, ↓stV, stW, Nat.reduceAdd]
    have s1418 := s1417.trans s18
    rw [Rat.add_zero] at hw2
    refine wpf_mono (sameRat_spec H hw2 (hA14.same s1418) ip.half.fits) ?_
    rintro _ S19 ⟨rfl, s19⟩
    refine ⟨s19, ?_⟩
    simp only [↓stU, stD, Nat.reduceEqDiff, ↓reduceIte, reduceCtorEq, ↓stV, stW, Nat.reduceAdd, p9, decide_true, un_not, Bool.not_true, ld3 gA14, ltA14, not_false_eq_true, self_rat hA]
    refine runD_call0 rfl ?_
    try simp only [↓stU, stD, Nat.reduceEqDiff, ↓reduceIte, reduceCtorEq, ↓stV, stW, Nat.reduceAdd]
    refine wpf_mono (o1 S19) ?_
    rintro ov S20 ⟨ho, s20⟩
    refine ⟨s20, ?_⟩
    try simp only [↓stU, stD, Nat.reduceEqDiff, ↓reduceIte, reduceCtorEq, ↓stV, stW, Nat.reduceAdd]
    refine runD_call0 rfl ?_
    try simp only [↓stU, stD, Nat.reduceEqDiff, ↓reduceIte, reduceCtorEq, ↓stV, stW, Nat.reduceAdd]
    have s1420 := s1418.trans (s19.trans s20)
    refine wpf_mono (product_spec H (hL.same (e14.trans s1420)) (hA14.same s1420) ho ip inBound_one (by rw [Rat.mul_one]; exact ip)) ?_
    rintro w3 S21 ⟨hw3, s21⟩
    refine ⟨s21, ?_⟩
    simp only [↓stU, stD, Nat.reduceEqDiff, ↓reduceIte, reduceCtorEq, ↓stV, stW, Nat.reduceAdd, p9, ld3 gA14, ltA14, not_false_eq_true, self_rat hA]
    refine runD_call0 rfl ?_
    try simp only [↓stU, stD, Nat.reduceEqDiff, ↓reduceIte, reduceCtorEq, ↓stV, stW, Nat.reduceAdd]
    have s1421 := s1420.trans s21
    rw [Rat.mul_one] at hw3
    refine wpf_mono (sameRat_spec H hw3 (hA14.same s1421) ip.half.fits) ?_
    rintro _ S22 ⟨rfl, s22⟩
    refine ⟨s22, ?_⟩
    simp only [↓stU, stD, Nat.reduceEqDiff, ↓reduceIte, reduceCtorEq, ↓stV, stW, Nat.reduceAdd, p9, p11, p15, decide_true, un_not, Bool.not_true]
    exact s1421.trans s22
  rintro o ⟨F, inr⟩ S22 ⟨⟨rfl, q0, s22, p9, p11, p15, p163⟩, fr22⟩
  simp only at q0 p9 p11 p15 p163
  subst q0
  try simp only [↓stU, stD, Nat.reduceEqDiff, ↓reduceIte, reduceCtorEq]
  refine wpc_if (t := false) (by simp only [↓stU, stD, Nat.reduceEqDiff, ↓reduceIte, reduceCtorEq, p163]) (fun h => by cases h) (fun _ => wpc_skip ?_)
  simp only [↓stU, stD, Nat.reduceEqDiff, ↓reduceIte, reduceCtorEq]
  have hF22 : Fresh S22 := fr22.1 hF14
  have gA22 : S22.h.get S1.nx = some (.cells [a0, a1, a2] false 0) := by rw [s22.2 _ ltA14]; exact gA14
  have gB22 : S22.h.get S4.nx = some (.cells [b0, b1, b2] false 0) := by rw [s22.2 _ ltB14]; exact gB14
  have g1522 : S22.h.get (S10.nx + 8) = some (.cells [k0, k1, k2] false 0) := by rw [s22.2 _ lt15]; exact g15
  have hA22 := hA14.same s22
  have hB22 := hB14.same s22
  have hbk22 := hbk.same s22
  have l22 := s22.1
  have ltA22 : S1.nx < S22.nx := by omega
  have ltB22 : S4.nx < S22.nx := by omega
  have neA : ¬ S1.nx = S10.nx + 8 := by omega
  have neB : ¬ S4.nx = S10.nx + 8 := by omega
  have e22 := e14.trans s22
  -- a quotient
  refine wpc_seq (wpc_mono (Q := fun o A' S' => o = .normal ∧ A'.inr = false ∧ SameBut (S10.nx + 8) S22 S' ∧ tmpV 9 A'.F = .ptr S1.nx 0 ∧ tmpV 11 A'.F = .ptr S4.nx 0 ∧ tmpV 15 A'.F = .ptr (S10.nx + 8) 0 ∧ RatIs S' (.agg [a0, a1, a2]) p ∧ ((q.num = 0 ∧ tmpV 16 A'.F = .int .i64 6) ∨ (q.num ≠ 0 ∧ tmpV 16 A'.F = .int .i64 0 ∧ ∃ j0 j1 j2, S'.h.get (S10.nx + 8) = some (.cells [j0, j1, j2] false 0) ∧ RatIs S' (.agg [j0, j1, j2]) p))) ?_ ?_)
  · refine wpc_drd2 (fun c => c = S10.nx + 8) ?_
    intro S23 s23 he23 hn23
    have hF23 : Fresh S23 := fun b hb => by rw [he23]; exact hF22 b (by omega)
    simp only [↓stU, stD, Nat.reduceEqDiff, ↓reduceIte, reduceCtorEq, ↓stV, stW, Nat.reduceAdd, p9, p11, ld3 gA22, ld3 gB22, ltA22, ltB22, neA, neB, not_false_eq_true, self_rat hA, self_rat hB]
    refine runD_call0 rfl ?_
    try simp only [↓stU, stD, Nat.reduceEqDiff, ↓reduceIte, reduceCtorEq, ↓stV, stW, Nat.reduceAdd]
    refine wpf_mono (wpf_fresh (product_spec H (hL.same (e22.trans s23)) (hA22.same s23) (hB22.same s23) ip iq m_pq)) ?_
    rintro w4 S24 ⟨⟨hw4, s24⟩, fr24⟩
    refine ⟨s24, ?_⟩
    simp only [↓stU, stD, Nat.reduceEqDiff, ↓reduceIte, reduceCtorEq, ↓stV, stW, Nat.reduceAdd, p11, ld3 gB22, ltB22, neB, not_false_eq_true, self_rat hB]
    refine runD_call0 rfl ?_
    try simp only [↓stU, stD, Nat.reduceEqDiff, ↓reduceIte, reduceCtorEq, ↓stV, stW, Nat.reduceAdd]
    have s2224 := s23.trans s24
    by_cases hq0 : q.num = 0
    · refine wpf_mono (rdiv_zero H (hL.same (e22.trans s2224)) hw4 (hB22.same s2224) m_pq iq hq0) ?_
      rintro _ S25 ⟨rfl, s25⟩
      refine ⟨s25, ?_⟩
      simp only [↓stU, stD, Nat.reduceEqDiff, ↓reduceIte, reduceCtorEq, ↓stV, stW, Nat.reduceAdd, ex0, ex1]
      have s2225 := s2224.trans s25
      have g25 : S25.h.get (S10.nx + 8) = some (.cells [k0, k1, k2] false 0) := by rw [s2225.2 _ (by omega)]; exact g1522
      refine runD_st0 (b := S10.nx + 8) rfl (by simp only [↓stU, stD, Nat.reduceEqDiff, ↓reduceIte, reduceCtorEq, ↓stV, stW, Nat.reduceAdd, p15]) (by simp only [↓stU, stD, Nat.reduceEqDiff, ↓reduceIte, reduceCtorEq, ↓stV, stW, Nat.reduceAdd, cells_agg]; rfl) g25 rfl rfl rfl ?_
      intro S26 s26 hn26 hb26
      simp only [↓stU, stD, Nat.reduceEqDiff, ↓reduceIte, reduceCtorEq, ↓stV, stW, Nat.reduceAdd, p9, p11, p15]
      exact ⟨sameBut_trans' s2225 s26, (hA22.same s2225).st g25 (noInt_rat (hbk22.same s2225)) s26 hb26, .inl hq0⟩
    · have hdv := div_back p q hq0
      refine wpf_mono (rdiv_spec H (hL.same (e22.trans s2224)) (fr24.1 hF23) hw4 (hB22.same s2224) m_pq iq hq0 (by rw [hdv]; exact ip)) ?_
      rintro _ S25 ⟨dv, rfl, hdv5, s25⟩
      refine ⟨s25, ?_⟩
      rw [hdv] at hdv5
      obtain ⟨j0, j1, j2, rfl⟩ := hdv5.cells
      simp only [↓stU, stD, Nat.reduceEqDiff, ↓reduceIte, reduceCtorEq, ↓stV, stW, Nat.reduceAdd, ex0, ex1]
      have s2225 := s2224.trans s25
      have g25 : S25.h.get (S10.nx + 8) = some (.cells [k0, k1, k2] false 0) := by rw [s2225.2 _ (by omega)]; exact g1522
      refine runD_st0 (b := S10.nx + 8) rfl (by simp only [↓stU, stD, Nat.reduceEqDiff, ↓reduceIte, reduceCtorEq, ↓stV, stW, Nat.reduceAdd, p15]) (by simp only [↓stU, stD, Nat.reduceEqDiff, ↓reduceIte, reduceCtorEq, ↓stV, stW, Nat.reduceAdd, cells_agg]; rfl) g25 rfl rfl rfl ?_
      intro S26 s26 hn26 hb26
      simp only [↓stU, stD, Nat.reduceEqDiff, ↓reduceIte, reduceCtorEq, ↓stV, stW, Nat.reduceAdd, p9, p11, p15]
      have hni := noInt_rat (hbk22.same s2225)
      exact ⟨sameBut_trans' s2225 s26, (hA22.same s2225).st g25 hni s26 hb26, .inr ⟨hq0, j0, j1, j2, hb26, hdv5.st g25 hni s26 hb26⟩⟩
  rintro o ⟨F, inr⟩ S26 ⟨rfl, q0, s26, p9, p11, p15, hA26, hcase⟩
  simp only at q0 p9 p11 p15 hcase
  subst q0
  try simp only [↓stU, stD, Nat.reduceEqDiff, ↓reduceIte, reduceCtorEq]
  have gA26 : S26.h.get S1.nx = some (.cells [a0, a1, a2] false 0) := by rw [s26.2 _ ltA22 neA]; exact gA22
  have gB26 : S26.h.get S4.nx = some (.cells [b0, b1, b2] false 0) := by rw [s26.2 _ ltB22 neB]; exact gB22
  have eS := s26.same (e14.trans s22) (by have := e10.1; omega)
  have hL26 := hL.same eS
  obtain ⟨nvv, dvv, hbe, hnb, _⟩ := id hB
  cases hbe
  obtain ⟨kb, hkb, hkb0⟩ := lenpos hnb
  refine wpc_seq (wpc_seq (wpc_reg ?_))
  simp only [↓stU, stD, Nat.reduceEqDiff, ↓reduceIte, reduceCtorEq, evQ_faddr, p11, faddr_ptr, ld3_1 gB26, hkb]
  rcases hcase with ⟨hq0, p16⟩ | ⟨hq0, p16, j0, j1, j2, g26, hj⟩
  · have : kb = 0 := hkb0.2 (by omega)
    refine wpc_if (t := true) (by simp only [↓stU, stD, Nat.reduceEqDiff, ↓reduceIte, reduceCtorEq, decide_eq_true (show (kb : Int) = 0 by omega)]) (fun _ => ?_) (fun h => by cases h)
    refine wpc_seq (wpc_reg ?_)
    simp only [↓stU, stD, Nat.reduceEqDiff, ↓reduceIte, reduceCtorEq, p16, decide_true]
    refine wpo_call ?_
    simp only [↓stU, stD, Nat.reduceEqDiff, ↓reduceIte, reduceCtorEq]
    refine wpf_mono (hAw S26 hL26) ?_
    rintro _ S27 ⟨rfl, s27⟩
    try simp only [↓stU, stD, Nat.reduceEqDiff, ↓reduceIte, reduceCtorEq]
    refine wpc_ret ?_
    simp only [↓stU, stD, Nat.reduceEqDiff, ↓reduceIte, reduceCtorEq]
    exact eS.trans s27
  · have : ¬ kb = 0 := fun h => hq0 (by have := hkb0.1 h; omega)
    refine wpc_if (t := false) (by simp only [↓stU, stD, Nat.reduceEqDiff, ↓reduceIte, reduceCtorEq, decide_eq_false (show ¬ (kb : Int) = 0 by omega)]) (fun h => by cases h) (fun _ => wpc_skip ?_)
    simp only [↓stU, stD, Nat.reduceEqDiff, ↓reduceIte, reduceCtorEq]
    refine wpc_seq (wpc_reg ?_)
    simp only [↓stU, stD, Nat.reduceEqDiff, ↓reduceIte, reduceCtorEq, p9, p15, p16, decide_true, ld3 gA26, ld3 g26]
    refine wpo_call ?_
    simp only [↓stU, stD, Nat.reduceEqDiff, ↓reduceIte, reduceCtorEq]
    refine wpf_mono (sameRat_spec H hj hA26 ip.half.fits) ?_
    rintro _ S27 ⟨rfl, s27⟩
    simp only [↓stU, stD, Nat.reduceEqDiff, ↓reduceIte, reduceCtorEq, decide_true]
    refine wpo_call ?_
    simp only [↓stU, stD, Nat.reduceEqDiff, ↓reduceIte, reduceCtorEq]
    refine wpf_mono (hAw S27 (hL26.same s27)) ?_
    rintro _ S28 ⟨rfl, s28⟩
    try simp only [↓stU, stD, Nat.reduceEqDiff, ↓reduceIte, reduceCtorEq]
    refine wpc_ret ?_
    simp only [↓stU, stD, Nat.reduceEqDiff, ↓reduceIte, reduceCtorEq]
    exact eS.trans (s27.trans s28)
end Go.Ev.Gl
