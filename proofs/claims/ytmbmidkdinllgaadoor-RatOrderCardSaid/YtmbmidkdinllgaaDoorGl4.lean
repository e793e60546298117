/- Contracts (4): rational numbers, the statements' tools, the law. -/
import Derived.Test.YtmbmidkdinllgaaDoorGl3
set_option maxHeartbeats 4000000
set_option linter.unusedSimpArgs false
set_option linter.unusedVariables false
namespace Go.Ev.Gl
variable {fns : T AFn}

/-! ## The rules, with what lies beyond the last block -/
theorem wpo_boxF {d t m : Nat} {x : Opd} {l : List AO} {F : Fr} {S : St} {Q : Fr → St → Prop} {cs : List AV} (hc : (x.val F).cells = some cs) (h : ∀ S1, Same S S1 → S1.nx = S.nx + 1 → S1.h.get S.nx = some (.cells cs false 0) → Frs S S1 → wpo fns l (putF (some d) F (.ptr S.nx 0)) S1 Q) : wpo fns (⟨some d, .a (.box t x), none, m⟩ :: l) F S Q := by
  rw [wpo_aE]
  refine ⟨(.ptr S.nx 0, .cells cs false 0), by rw [evA_box, hc]; rfl, h _ (Same.alloc S _) rfl ?_ (frs_alloc S _)⟩
  simp only
  rw [T.get_set, if_pos rfl]
theorem wpo_allocF {d t m : Nat} {l : List AO} {F : Fr} {S : St} {Q : Fr → St → Prop} {cs : List AV} (h : ∀ S1, Same S S1 → S1.nx = S.nx + 1 → S1.h.get S.nx = some (.cells cs false 0) → Frs S S1 → wpo fns l (putF (some d) F (.ptr S.nx 0)) S1 Q) : wpo fns (⟨some d, .a (.alloc t cs), none, m⟩ :: l) F S Q := by
  rw [wpo_aE]
  refine ⟨(.ptr S.nx 0, .cells cs false 0), rfl, h _ (Same.alloc S _) rfl ?_ (frs_alloc S _)⟩
  simp only
  rw [T.get_set, if_pos rfl]
theorem wpo_stF {n m b s : Nat} {x v : Opd} {l : List AO} {F : Fr} {S : St} {Q : Fr → St → Prop} {cs cs' : List AV} {o : Bool} (hx : x.val F = .ptr b 0) (hv : (v.val F).cells = some cs') (hb : S.h.get b = some (.cells cs o s)) (h1 : cs.length = n) (h2 : cs'.length = n)
    (h : ∀ S1, SameBut b S S1 → S1.nx = S.nx → S1.h.get b = some (.cells cs' o s) → Frs S S1 → wpo fns l F S1 Q) : wpo fns (⟨none, .x (.st n x v), none, m⟩ :: l) F S Q := by
  refine wpo_x (v := .undef) (fun call => ?_) (h ⟨S.h.set b (some (.cells cs' o s)), S.nx⟩ ((SameBut.refl b S).put _) rfl ?_ (frs_set hb _))
  · rw [evX_st, hv, osel_some, hx]; exact xst_all hb h1 h2
  · simp only
    rw [T.get_set, if_pos rfl]
theorem wpc_drd2 (W : Nat → Prop) {ops : List AO} {A : Act'} {S : St} {Q : Out → Act' → St → Prop} (h : ∀ S1, Same S S1 → S1.h = S.h → S1.nx = S.nx + ops.length → runD fns W S.h S.nx ops 0 A.F S1 [] none fun F S' ps => Q .normal ⟨F, A.inr⟩ ⟨(flush (2 ^ ops.length - 1) ps S'.h).2, S'.nx⟩) : wpc fns (.drw ops) A S Q := wpc_drd W (h _ (Same.nx S _) rfl rfl)

theorem rsub_spec {S : St} {a b : AV} {p q : Rat} (H : Has fns) (hL : Laid S) (hF : Fresh S) (ha : RatIs S a p) (hb : RatIs S b q) (hp : InBound p) (hq : InBound q) (hin : InBound (p + -q)) : wpf fns (.fn 24 [] []) [a, b] S fun r S' => ∃ v, r = .tup [v, .int .i64 0] ∧ RatIs S' v (p + -q) ∧ Same S S' := by
  obtain ⟨a0, a1, a2, rfl⟩ := ha.cells
  obtain ⟨b0, b1, b2, rfl⟩ := hb.cells
  refine wpf_fn H.f24 (by simp) ?_
  simp only [↓stU, stD, Nat.reduceEqDiff, ↓reduceIte, reduceCtorEq]
  refine wpc_seq (wpc_reg ?_)
  refine wpo_boxF (by simp only [↓stU, stD, Nat.reduceEqDiff, ↓reduceIte, reduceCtorEq, cells_agg]; rfl) ?_
  intro S1 hS1 hn1 hc1 fr1
  refine wpo_boxF (by simp only [↓stU, stD, Nat.reduceEqDiff, ↓reduceIte, reduceCtorEq, cells_agg]; rfl) ?_
  intro S2 hS2 hn2 hc2 fr2
  refine wpo_allocF ?_
  intro S3 hS3 hn3 hc3 fr3
  simp only [↓stU, stD, Nat.reduceEqDiff, ↓reduceIte, reduceCtorEq]
  have g1 : S3.h.get S.nx = some (.cells [a0, a1, a2] false 0) := by rw [hS3.2 _ (by omega), hS2.2 _ (by omega)]; exact hc1
  have g2 : S3.h.get S1.nx = some (.cells [b0, b1, b2] false 0) := by rw [hS3.2 _ (by omega)]; exact hc2
  have hS := hS1.trans (hS2.trans hS3)
  refine wpc_seq (wpc_seq (wpc_reg ?_))
  simp only [↓stU, stD, Nat.reduceEqDiff, ↓reduceIte, reduceCtorEq, ld3 g1, ld3 g2]
  refine wpo_call ?_
  simp only [↓stU, stD, Nat.reduceEqDiff, ↓reduceIte, reduceCtorEq]
  refine wpf_mono (wpf_fresh (both_ok H (hL.same hS) (ha.same hS) (hb.same hS) hp hq)) ?_
  rintro _ S4 ⟨⟨rfl, hS4⟩, fr4⟩
  try simp only [↓stU, stD, Nat.reduceEqDiff, ↓reduceIte, reduceCtorEq]
  refine wpc_seq (wpc_reg ?_)
  simp only [↓stU, stD, Nat.reduceEqDiff, ↓reduceIte, reduceCtorEq]
  refine wpc_if (t := false) (by simp only [↓stU, stD, Nat.reduceEqDiff, ↓reduceIte, reduceCtorEq]; rfl) (fun h => by cases h) (fun _ => wpc_skip ?_)
  simp only [↓stU, stD, Nat.reduceEqDiff, ↓reduceIte, reduceCtorEq]
  refine wpc_seq (wpc_reg ?_)
  refine wpo_call ?_
  simp only [↓stU, stD, Nat.reduceEqDiff, ↓reduceIte, reduceCtorEq]
  refine wpf_mono (wpf_fresh (one_spec H.f66)) ?_
  rintro ov S5 ⟨⟨ho, hS5⟩, fr5⟩
  try simp only [↓stU, stD, Nat.reduceEqDiff, ↓reduceIte, reduceCtorEq]
  refine wpo_call ?_
  simp only [↓stU, stD, Nat.reduceEqDiff, ↓reduceIte, reduceCtorEq]
  refine wpf_mono (wpf_fresh (whole_spec H ho (Fits.of (i := 1) (by decide) (by decide)))) ?_
  rintro wv S6 ⟨⟨hw, hS6⟩, fr6⟩
  rw [sg_one] at hw
  obtain ⟨w0, w1, w2, rfl⟩ := hw.cells
  refine wpo_allocF ?_
  intro S7 hS7 hn7 hc7 fr7
  refine wpo_stF (b := S6.nx) (by simp only [↓stU, stD, Nat.reduceEqDiff, ↓reduceIte, reduceCtorEq]) (by simp only [↓stU, stD, Nat.reduceEqDiff, ↓reduceIte, reduceCtorEq, cells_agg]; rfl) hc7 rfl rfl ?_
  intro S8 hS8 hn8 hc8 fr8
  simp only [↓stU, stD, Nat.reduceEqDiff, ↓reduceIte, reduceCtorEq]
  have hF8 : Fresh S8 := fr8.1 (fr7.1 (fr6.1 (fr5.1 (fr4.1 (fr3.1 (fr2.1 (fr1.1 hF)))))))
  have h68 : Same S6 S8 := hS8.same hS7 (Nat.le_refl _)
  have h38 := hS4.trans (hS5.trans (hS6.trans h68))
  have hS8' := hS.trans h38
  have k1 : S8.h.get S.nx = some (.cells [a0, a1, a2] false 0) := by rw [h38.2 _ (by omega)]; exact g1
  have k2 : S8.h.get S1.nx = some (.cells [b0, b1, b2] false 0) := by rw [h38.2 _ (by omega)]; exact g2
  have k3 : S8.h.get S2.nx = some (.cells [.bool false, .nilsl, .nilsl] false 0) := by rw [h38.2 _ (by omega)]; exact hc3
  have hl8 := h38.1
  have hl6 := h68.1
  have hl36 := (hS4.trans (hS5.trans hS6)).1
  have lt1 : S.nx < S8.nx := by omega
  have lt2 : S1.nx < S8.nx := by omega
  have lt3 : S6.nx < S8.nx := by omega
  have ne1 : ¬ S.nx = S2.nx := by omega
  have ne2 : ¬ S1.nx = S2.nx := by omega
  have ne3 : ¬ S6.nx = S2.nx := by omega
  refine wpc_seq (wpc_drd2 (fun c => c = S2.nx) ?_)
  intro S9 hS9 he9 hn9
  simp only [List.length_cons, List.length_nil, Nat.reduceAdd] at hn9
  simp only [↓stU, stD, Nat.reduceEqDiff, ↓reduceIte, reduceCtorEq, ↓stV, stW, Nat.reduceAdd, ld3 k1, ld3 k2, ld3 hc8, lt1, lt2, lt3, ne1, ne2, ne3, not_false_eq_true, self_rat ha, self_rat hb, self_rat hw, evQ_b6, join6_eq, isLoad_build]
  refine runD_call0 rfl ?_
  try simp only [↓stU, stD, Nat.reduceEqDiff, ↓reduceIte, reduceCtorEq, ↓stV, stW, Nat.reduceAdd]
  have hS9' := hS8'.trans hS9
  refine wpf_mono (negative_spec H (hb.same hS9') hq.half.fits) ?_
  rintro nvv S10 ⟨hnv, hS10⟩
  refine ⟨hS10, ?_⟩
  obtain ⟨n0, n1, n2, rfl⟩ := hnv.cells
  simp only [↓stU, stD, Nat.reduceEqDiff, ↓reduceIte, reduceCtorEq, ↓stV, stW, Nat.reduceAdd, ld3 hc8, lt3, ne3, not_false_eq_true, self_rat hw, evQ_b6, join6_eq, isLoad_build, evA_bs2, bs2_eq]
  have hnone : S10.h.get (S8.nx + 7) = none := by rw [hS10.2 _ (by omega), he9]; exact hF8 _ (by omega)
  refine runD_call1 (by rfl) rfl ?_
  intro S11 hS11 hn11 hc11
  try simp only [↓stU, stD, Nat.reduceEqDiff, ↓reduceIte, reduceCtorEq, ↓stV, stW, Nat.reduceAdd]
  have h810 := hS9.trans hS10
  have h811 : Same S8 S11 := hS11.same h810 (by omega)
  have hS11' := hS8'.trans h811
  have hw11 := hw.same (h68.trans h811)
  obtain ⟨pr0, pr1⟩ := pairs2 hc11 (ha.same hS11') hw11 (hnv.lay hnone hS11) hw11
  have hnq : InBound (-q) := Bnd.neg (i := 1024) hq
  have hl10 := hS10.1
  refine wpf_mono (total2 H (hL.same hS11') (by omega) pr0 pr1 hp hnq hin) ?_
  rintro _ S12 ⟨v, rfl, hv, hS12⟩
  refine ⟨hS12, ?_⟩
  obtain ⟨c0, c1, c2, rfl⟩ := hv.cells
  simp only [↓stU, stD, Nat.reduceEqDiff, ↓reduceIte, reduceCtorEq, ↓stV, stW, Nat.reduceAdd, ex0, ex1]
  have k12 : S12.h.get S2.nx = some (.cells [.bool false, .nilsl, .nilsl] false 0) := by rw [hS12.2 _ (by omega), h811.2 _ (by omega)]; exact k3
  refine runD_st0 (b := S2.nx) rfl (by simp only [↓stU, stD, Nat.reduceEqDiff, ↓reduceIte, reduceCtorEq, ↓stV, stW, Nat.reduceAdd]) (by simp only [↓stU, stD, Nat.reduceEqDiff, ↓reduceIte, reduceCtorEq, ↓stV, stW, Nat.reduceAdd, cells_agg]; rfl) k12 rfl rfl rfl ?_
  intro S13 hS13 hn13 hb13
  try simp only [↓stU, stD, Nat.reduceEqDiff, ↓reduceIte, reduceCtorEq, ↓stV, stW, Nat.reduceAdd]
  refine wpc_ret ?_
  simp only [↓stU, stD, Nat.reduceEqDiff, ↓reduceIte, reduceCtorEq, ↓stV, stW, Nat.reduceAdd, results_cell, ld3 hb13]
  exact ⟨_, rfl, hv.st k12 rfl hS13 hb13, hS13.same (hS11'.trans hS12) (by omega)⟩

/-! ## Signs -/
def sgn (q : Rat) : Int := if q.num = 0 then 1 else if q.num < 0 then 0 else 2
theorem signOf_spec {S : St} {v : AV} {q : Rat} (H : Has fns) (h : RatIs S v q) : wpf fns (.fn 51 [] []) [v] S fun r S' => r = .int .i64 (sgn q) ∧ Same S S' := by
  obtain ⟨nv, dv, rfl, h1, h2⟩ := h
  obtain ⟨k, hk, hk0⟩ := lenpos h1
  refine wpf_fn H.f51 (by simp) ?_
  simp only [↓stU, stD, Nat.reduceEqDiff, ↓reduceIte, reduceCtorEq]
  refine wpc_seq (wpc_reg ?_)
  refine wpo_box (by simp only [↓stU, stD, Nat.reduceEqDiff, ↓reduceIte, reduceCtorEq, cells_agg]; rfl) ?_
  intro S1 hS1 hn1 hb1
  simp only [↓stU, stD, Nat.reduceEqDiff, ↓reduceIte, reduceCtorEq]
  refine wpc_seq (wpc_block (wpc_seq (wpc_reg ?_)))
  simp only [↓stU, stD, Nat.reduceEqDiff, ↓reduceIte, reduceCtorEq, evQ_faddr, faddr_ptr, ld3_1 hb1, hk]
  by_cases h0 : q.num = 0
  · have : k = 0 := hk0.2 (by omega)
    refine wpc_if (t := true) (by simp only [↓stU, stD, Nat.reduceEqDiff, ↓reduceIte, reduceCtorEq, decide_eq_true (show (k : Int) = 0 by omega)]) (fun _ => ?_) (fun h => by cases h)
    refine wpc_seq (wpc_reg ?_)
    simp only [↓stU, stD, Nat.reduceEqDiff, ↓reduceIte, reduceCtorEq]
    refine wpc_ret ?_
    simp only [↓stU, stD, Nat.reduceEqDiff, ↓reduceIte, reduceCtorEq, sgn, if_pos h0]
    exact hS1
  have : ¬ k = 0 := fun h => h0 (by have := hk0.1 h; omega)
  refine wpc_if (t := false) (by simp only [↓stU, stD, Nat.reduceEqDiff, ↓reduceIte, reduceCtorEq, decide_eq_false (show ¬ (k : Int) = 0 by omega)]) (fun h => by cases h) (fun _ => ?_)
  refine wpc_seq (wpc_reg ?_)
  simp only [↓stU, stD, Nat.reduceEqDiff, ↓reduceIte, reduceCtorEq, evQ_faddr, faddr_ptr, ld3_0 hb1]
  by_cases h1 : q.num < 0
  · refine wpc_if (t := true) (by simp only [↓stU, stD, Nat.reduceEqDiff, ↓reduceIte, reduceCtorEq, decide_eq_true h1]) (fun _ => ?_) (fun h => by cases h)
    refine wpc_seq (wpc_reg ?_)
    simp only [↓stU, stD, Nat.reduceEqDiff, ↓reduceIte, reduceCtorEq]
    refine wpc_ret ?_
    simp only [↓stU, stD, Nat.reduceEqDiff, ↓reduceIte, reduceCtorEq, sgn, if_neg h0, if_pos h1]
    exact hS1
  refine wpc_if (t := false) (by simp only [↓stU, stD, Nat.reduceEqDiff, ↓reduceIte, reduceCtorEq, decide_eq_false h1]) (fun h => by cases h) (fun _ => wpc_skip ?_)
  simp only [↓stU, stD, Nat.reduceEqDiff, ↓reduceIte, reduceCtorEq]
  refine wpc_seq (wpc_reg ?_)
  simp only [↓stU, stD, Nat.reduceEqDiff, ↓reduceIte, reduceCtorEq]
  refine wpc_ret ?_
  simp only [↓stU, stD, Nat.reduceEqDiff, ↓reduceIte, reduceCtorEq, sgn, if_neg h0, if_neg h1]
  exact hS1

theorem rdiv_spec {S : St} {a b : AV} {p q : Rat} (H : Has fns) (hL : Laid S) (hF : Fresh S) (ha : RatIs S a p) (hb : RatIs S b q) (hp : InBound p) (hq : InBound q) (h0 : q.num ≠ 0) (hin : InBound (p * q⁻¹)) : wpf fns (.fn 28 [] []) [a, b] S fun r S' => ∃ v, r = .tup [v, .int .i64 0] ∧ RatIs S' v (p * q⁻¹) ∧ Same S S' := by
  obtain ⟨a0, a1, a2, rfl⟩ := ha.cells
  obtain ⟨b0, b1, b2, rfl⟩ := hb.cells
  refine wpf_fn H.f28 (by simp) ?_
  simp only [↓stU, stD, Nat.reduceEqDiff, ↓reduceIte, reduceCtorEq]
  refine wpc_seq (wpc_reg ?_)
  refine wpo_boxF (by simp only [↓stU, stD, Nat.reduceEqDiff, ↓reduceIte, reduceCtorEq, cells_agg]; rfl) ?_
  intro S1 hS1 hn1 hc1 fr1
  refine wpo_boxF (by simp only [↓stU, stD, Nat.reduceEqDiff, ↓reduceIte, reduceCtorEq, cells_agg]; rfl) ?_
  intro S2 hS2 hn2 hc2 fr2
  refine wpo_allocF ?_
  intro S3 hS3 hn3 hc3 fr3
  simp only [↓stU, stD, Nat.reduceEqDiff, ↓reduceIte, reduceCtorEq]
  have g1 : S3.h.get S.nx = some (.cells [a0, a1, a2] false 0) := by rw [hS3.2 _ (by omega), hS2.2 _ (by omega)]; exact hc1
  have g2 : S3.h.get S1.nx = some (.cells [b0, b1, b2] false 0) := by rw [hS3.2 _ (by omega)]; exact hc2
  have hS := hS1.trans (hS2.trans hS3)
  refine wpc_seq (wpc_seq (wpc_reg ?_))
  simp only [↓stU, stD, Nat.reduceEqDiff, ↓reduceIte, reduceCtorEq, ld3 g1, ld3 g2]
  refine wpo_call ?_
  simp only [↓stU, stD, Nat.reduceEqDiff, ↓reduceIte, reduceCtorEq]
  refine wpf_mono (wpf_fresh (both_ok H (hL.same hS) (ha.same hS) (hb.same hS) hp hq)) ?_
  rintro _ S4 ⟨⟨rfl, hS4⟩, fr4⟩
  try simp only [↓stU, stD, Nat.reduceEqDiff, ↓reduceIte, reduceCtorEq]
  refine wpc_seq (wpc_reg ?_)
  simp only [↓stU, stD, Nat.reduceEqDiff, ↓reduceIte, reduceCtorEq]
  refine wpc_if (t := false) (by simp only [↓stU, stD, Nat.reduceEqDiff, ↓reduceIte, reduceCtorEq]; rfl) (fun h => by cases h) (fun _ => wpc_skip ?_)
  simp only [↓stU, stD, Nat.reduceEqDiff, ↓reduceIte, reduceCtorEq]
  have g2' : S4.h.get S1.nx = some (.cells [b0, b1, b2] false 0) := by rw [hS4.2 _ (by omega)]; exact g2
  refine wpc_seq (wpc_seq (wpc_reg ?_))
  simp only [↓stU, stD, Nat.reduceEqDiff, ↓reduceIte, reduceCtorEq, ld3 g2']
  refine wpo_call ?_
  simp only [↓stU, stD, Nat.reduceEqDiff, ↓reduceIte, reduceCtorEq]
  refine wpf_mono (wpf_fresh (signOf_spec H (hb.same (hS.trans hS4)))) ?_
  rintro _ S8 ⟨⟨rfl, hS8⟩, fr8⟩
  simp only [↓stU, stD, Nat.reduceEqDiff, ↓reduceIte, reduceCtorEq]
  have hsg : decide (sgn q = 1) = false := by unfold sgn; rw [if_neg h0]; split <;> rfl
  refine wpc_if (t := false) (by simp only [↓stU, stD, Nat.reduceEqDiff, ↓reduceIte, reduceCtorEq, hsg]) (fun h => by cases h) (fun _ => wpc_skip ?_)
  simp only [↓stU, stD, Nat.reduceEqDiff, ↓reduceIte, reduceCtorEq]
  have hF8 : Fresh S8 := fr8.1 (fr4.1 (fr3.1 (fr2.1 (fr1.1 hF))))
  have h38 := hS4.trans hS8
  have hS8' := hS.trans h38
  have k1 : S8.h.get S.nx = some (.cells [a0, a1, a2] false 0) := by rw [h38.2 _ (by omega)]; exact g1
  have k2 : S8.h.get S1.nx = some (.cells [b0, b1, b2] false 0) := by rw [h38.2 _ (by omega)]; exact g2
  have k3 : S8.h.get S2.nx = some (.cells [.bool false, .nilsl, .nilsl] false 0) := by rw [h38.2 _ (by omega)]; exact hc3
  have hl8 := h38.1
  have lt1 : S.nx < S8.nx := by omega
  have lt2 : S1.nx < S8.nx := by omega
  have ne1 : ¬ S.nx = S2.nx := by omega
  have ne2 : ¬ S1.nx = S2.nx := by omega
  refine wpc_seq (wpc_drd2 (fun c => c = S2.nx) ?_)
  intro S9 hS9 he9 hn9
  simp only [List.length_cons, List.length_nil, Nat.reduceAdd] at hn9
  simp only [↓stU, stD, Nat.reduceEqDiff, ↓reduceIte, reduceCtorEq, ↓stV, stW, Nat.reduceAdd, ld3 k1, ld3 k2, lt1, lt2, ne1, ne2, not_false_eq_true, self_rat ha, self_rat hb]
  refine runD_call0 rfl ?_
  try simp only [↓stU, stD, Nat.reduceEqDiff, ↓reduceIte, reduceCtorEq, ↓stV, stW, Nat.reduceAdd]
  have hS9' := hS8'.trans hS9
  refine wpf_mono (inverse_spec H (hb.same hS9') hq.half.fits h0) ?_
  rintro nvv S10 ⟨hnv, hS10⟩
  refine ⟨hS10, ?_⟩
  obtain ⟨n0, n1, n2, rfl⟩ := hnv.cells
  simp only [↓stU, stD, Nat.reduceEqDiff, ↓reduceIte, reduceCtorEq, ↓stV, stW, Nat.reduceAdd, evQ_b6, join6_eq, isLoad_build, evA_bs1, bs1_eq]
  have hnone : S10.h.get (S8.nx + 4) = none := by rw [hS10.2 _ (by omega), he9]; exact hF8 _ (by omega)
  refine runD_call1 (by rfl) rfl ?_
  intro S11 hS11 hn11 hc11
  try simp only [↓stU, stD, Nat.reduceEqDiff, ↓reduceIte, reduceCtorEq, ↓stV, stW, Nat.reduceAdd]
  have h810 := hS9.trans hS10
  have h811 : Same S8 S11 := hS11.same h810 (by omega)
  have hS11' := hS8'.trans h811
  have pr0 : PairAt S11 (S8.nx + 4) 0 p q⁻¹ := ⟨a0, a1, a2, n0, n1, n2, fun T hT => by rw [hc11] at hT; simp only [qLdV, loadV, bsel_true, loadN, cellsAt, hT, osel_some, cellsOfB]; rfl, ha.same hS11', hnv.lay hnone hS11⟩
  have hnq : InBound q⁻¹ := Bnd.inv (i := 1024) hq h0
  have hl10 := hS10.1
  refine wpf_mono (total1 H (hL.same hS11') (by omega) pr0 hp hnq hin) ?_
  rintro _ S12 ⟨v, rfl, hv, hS12⟩
  refine ⟨hS12, ?_⟩
  obtain ⟨c0, c1, c2, rfl⟩ := hv.cells
  simp only [↓stU, stD, Nat.reduceEqDiff, ↓reduceIte, reduceCtorEq, ↓stV, stW, Nat.reduceAdd, ex0, ex1]
  have k12 : S12.h.get S2.nx = some (.cells [.bool false, .nilsl, .nilsl] false 0) := by rw [hS12.2 _ (by omega), h811.2 _ (by omega)]; exact k3
  refine runD_st0 (b := S2.nx) rfl (by simp only [↓stU, stD, Nat.reduceEqDiff, ↓reduceIte, reduceCtorEq, ↓stV, stW, Nat.reduceAdd]) (by simp only [↓stU, stD, Nat.reduceEqDiff, ↓reduceIte, reduceCtorEq, ↓stV, stW, Nat.reduceAdd, cells_agg]; rfl) k12 rfl rfl rfl ?_
  intro S13 hS13 hn13 hb13
  try simp only [↓stU, stD, Nat.reduceEqDiff, ↓reduceIte, reduceCtorEq, ↓stV, stW, Nat.reduceAdd]
  refine wpc_ret ?_
  simp only [↓stU, stD, Nat.reduceEqDiff, ↓reduceIte, reduceCtorEq, ↓stV, stW, Nat.reduceAdd, results_cell, ld3 hb13]
  exact ⟨_, rfl, hv.st k12 rfl hS13 hb13, hS13.same (hS11'.trans hS12) (by omega)⟩
end Go.Ev.Gl

namespace Go.Ev.Gl
variable {fns : T AFn}

/-! ## The statements' own tools -/
theorem bin_rem_nat (e : EqT) (k : IntKind) {t d : Nat} (hd : 0 < d) : binV .rem e (.int k ((t : Nat) : Int)) (.int k ((d : Nat) : Int)) = some (.int k ((t % d : Nat) : Int)) := by
  show intsBin .rem k (Int.ofNat t) k (Int.ofNat d) = _
  unfold intsBin
  rw [show isShift .rem = false from rfl, bsel_false, keq_refl, bsel_true]
  show bsel (Nat.beq d 0) none (some (AV.int k (.ofNat (t % d)))) = _
  have h0 : Nat.beq d 0 = false := by rw [Bool.eq_false_iff]; intro h; rw [Nat.beq_eq] at h; omega
  rw [h0, bsel_false]
  rfl
theorem bin_rem_any (e : EqT) {a b : Int} (hb : b ≠ 0) : ∃ z, binV .rem e (.int .i64 a) (.int .i64 b) = some (.int .i64 z) := by
  show ∃ z, intsBin .rem .i64 a .i64 b = _
  unfold intsBin
  rw [show isShift .rem = false from rfl, bsel_false, keq_refl, bsel_true]
  show ∃ z, iRem .i64 a b = _
  unfold iRem
  split
  · rename_i m n
    have h0 : Nat.beq n 0 = false := by
      rw [Bool.eq_false_iff]; intro h; rw [Nat.beq_eq] at h; subst h; exact hb rfl
    rw [h0, bsel_false]
    exact ⟨_, rfl⟩
  · have h0 : ieq b (.ofNat 0) = false := by
      rw [Bool.eq_false_iff]; intro h; rw [ieq_eq] at h; exact hb (by simpa using h)
    rw [h0, bsel_false]
    exact ⟨_, rfl⟩

theorem mod_spec {S : St} {a b : Int} (H : Has fns) (hb : b ≠ 0) : wpf fns (.fn 34 [] []) [.int .i64 a, .int .i64 b] S fun r S' => (∃ z, r = .int .i64 z) ∧ S' = S := by
  obtain ⟨z, hz⟩ := bin_rem_any (.p .int) (a := a) hb
  refine wpf_fn H.f34 (by simp) ?_
  simp only [↓stU, stD, Nat.reduceEqDiff, ↓reduceIte, reduceCtorEq]
  refine wpc_seq (wpc_reg ?_)
  simp only [↓stU, stD, Nat.reduceEqDiff, ↓reduceIte, reduceCtorEq]
  refine wpc_seq (wpc_reg ?_)
  simp only [↓stU, stD, Nat.reduceEqDiff, ↓reduceIte, reduceCtorEq, hz]
  refine wpc_seq (wpc_seq (wpc_reg ?_))
  simp only [↓stU, stD, Nat.reduceEqDiff, ↓reduceIte, reduceCtorEq]
  by_cases h0 : z < 0
  · refine wpc_if (t := true) (by simp only [↓stU, stD, Nat.reduceEqDiff, ↓reduceIte, reduceCtorEq, decide_eq_true h0]) (fun _ => wpc_reg ?_) (fun h => by cases h)
    simp only [↓stU, stD, Nat.reduceEqDiff, ↓reduceIte, reduceCtorEq]
    refine wpc_seq (wpc_reg ?_)
    simp only [↓stU, stD, Nat.reduceEqDiff, ↓reduceIte, reduceCtorEq]
    refine wpc_ret ?_
    simp only [↓stU, stD, Nat.reduceEqDiff, ↓reduceIte, reduceCtorEq]
    exact ⟨_, rfl⟩
  · refine wpc_if (t := false) (by simp only [↓stU, stD, Nat.reduceEqDiff, ↓reduceIte, reduceCtorEq, decide_eq_false h0]) (fun h => by cases h) (fun _ => wpc_skip ?_)
    simp only [↓stU, stD, Nat.reduceEqDiff, ↓reduceIte, reduceCtorEq]
    refine wpc_seq (wpc_reg ?_)
    simp only [↓stU, stD, Nat.reduceEqDiff, ↓reduceIte, reduceCtorEq]
    refine wpc_ret ?_
    simp only [↓stU, stD, Nat.reduceEqDiff, ↓reduceIte, reduceCtorEq]
    exact ⟨_, rfl⟩

def AlikeI (S : St) (a b : AV) (l m : List Nat) (k : Nat) (A : Act') (S' : St) : Prop :=
  A.inr = false ∧ S'.h = S.h ∧ S.nx ≤ S'.nx ∧ ∃ i : Nat, i + k = l.length ∧ tmpV 0 A.F = a ∧ tmpV 1 A.F = b ∧ tmpV 5 A.F = .int .i64 (i : Int) ∧ l.take i = m.take i

theorem same_of_h {S S' : St} (h1 : S'.h = S.h) (h2 : S.nx ≤ S'.nx) : Same S S' := ⟨h2, fun _ _ => by rw [h1]⟩

theorem alike_spec {S : St} {a b : AV} {l m : List Nat} (H : Has fns) (ha : LimbIs S a l) (hb : LimbIs S b m) (hl : l.length ≤ 1000000) : wpf fns (.fn 38 [] []) [a, b] S fun r S' => r = .bool (decide (l = m)) ∧ Same S S' := by
  refine wpf_fn H.f38 (by simp) ?_
  simp only [↓stU, stD, Nat.reduceEqDiff, ↓reduceIte, reduceCtorEq]
  refine wpc_seq (wpc_reg ?_)
  simp only [↓stU, stD, Nat.reduceEqDiff, ↓reduceIte, reduceCtorEq]
  refine wpc_seq (wpc_seq (wpc_reg ?_))
  simp only [↓stU, stD, Nat.reduceEqDiff, ↓reduceIte, reduceCtorEq, ha.len, hb.len]
  by_cases hlen : l.length = m.length
  · refine wpc_if (t := false) (by simp only [↓stU, stD, Nat.reduceEqDiff, ↓reduceIte, reduceCtorEq, decide_eq_false (show ¬ ((l.length : Nat) : Int) ≠ ((m.length : Nat) : Int) by omega)]) (fun h => by cases h) (fun _ => wpc_skip ?_)
    simp only [↓stU, stD, Nat.reduceEqDiff, ↓reduceIte, reduceCtorEq]
    refine wpc_seq (wpc_seq (wpc_reg ?_))
    simp only [↓stU, stD, Nat.reduceEqDiff, ↓reduceIte, reduceCtorEq]
    refine wpc_mono (Q := fun o A' S' => Same S S' ∧ ((o = .normal ∧ l = m) ∨ (o = .ret ∧ tmpV 4 A'.F = .bool false ∧ l ≠ m))) ?_ ?_
    · refine wpc_block (wpc_loop (AlikeI S a b l m) ?_ l.length _ _ ⟨rfl, rfl, Nat.le_refl _, 0, by omega, by simp only [↓stU, stD, Nat.reduceEqDiff, ↓reduceIte, reduceCtorEq], by simp only [↓stU, stD, Nat.reduceEqDiff, ↓reduceIte, reduceCtorEq], by simp only [↓stU, stD, Nat.reduceEqDiff, ↓reduceIte, reduceCtorEq], by simp⟩)
      rintro k ⟨F, inr⟩ S' ⟨q0, hh, hnx, i, hik, p0, p1, p5, htk⟩
      simp only at q0 p0 p1 p5
      subst q0
      have hS := same_of_h hh hnx
      have ha' := ha.same hS
      have hb' := hb.same hS
      refine wpc_seq (wpc_seq (wpc_reg ?_))
      simp only [↓stU, stD, Nat.reduceEqDiff, ↓reduceIte, reduceCtorEq, p0, p5, ha.len]
      by_cases hi : i < l.length
      · refine wpc_if (t := true) (by simp only [↓stU, stD, Nat.reduceEqDiff, ↓reduceIte, reduceCtorEq, decide_eq_true (show (i : Int) < ((l.length : Nat) : Int) by omega)]) (fun _ => wpc_skip ?_) (fun h => by cases h)
        simp only [↓stU, stD, Nat.reduceEqDiff, ↓reduceIte, reduceCtorEq]
        have l1 := ha'.ld hi
        have l2 := hb'.ld (i := i) (by omega)
        rw [List.getD_eq_getElem?_getD] at l1 l2
        have t1 : l.take (i + 1) = l.take i ++ [l[i]?.getD 0] := by rw [List.take_add_one, List.getElem?_eq_getElem hi]; rfl
        have t2 : m.take (i + 1) = m.take i ++ [m[i]?.getD 0] := by rw [List.take_add_one, List.getElem?_eq_getElem (by omega : i < m.length)]; rfl
        refine wpc_seq (wpc_block (wpc_seq (wpc_drq ?_)))
        simp only [↓stU, stD, Nat.reduceEqDiff, ↓reduceIte, reduceCtorEq, ↓stV, stW, Nat.reduceAdd, p0, p1, p5, ha.iaddr hi, hb.iaddr (show i < m.length by omega), l1, l2]
        by_cases hxy : l[i]?.getD 0 = m[i]?.getD 0
        · refine wpc_if (t := false) (by simp only [↓stU, stD, Nat.reduceEqDiff, ↓reduceIte, reduceCtorEq, hxy]; simp) (fun h => by cases h) (fun _ => wpc_skip ?_)
          simp only [↓stU, stD, Nat.reduceEqDiff, ↓reduceIte, reduceCtorEq]
          refine wpc_reg ?_
          have w1 : IntKind.i64.wrap ((i : Int) + 1) = ((i + 1 : Nat) : Int) := by rw [wrap_i64 (by omega) (by omega)]; omega
          simp only [↓stU, stD, Nat.reduceEqDiff, ↓reduceIte, reduceCtorEq, p5, w1]
          exact ⟨k - 1, by omega, rfl, hh, by simp; omega, i + 1, by omega, by simp only [↓stU, stD, Nat.reduceEqDiff, ↓reduceIte, reduceCtorEq, p0], by simp only [↓stU, stD, Nat.reduceEqDiff, ↓reduceIte, reduceCtorEq, p1], by simp only [↓stU, stD, Nat.reduceEqDiff, ↓reduceIte, reduceCtorEq], by rw [t1, t2, htk, hxy]⟩
        · refine wpc_if (t := true) (by simp only [↓stU, stD, Nat.reduceEqDiff, ↓reduceIte, reduceCtorEq]; simp; omega) (fun _ => ?_) (fun h => by cases h)
          refine wpc_seq (wpc_reg ?_)
          simp only [↓stU, stD, Nat.reduceEqDiff, ↓reduceIte, reduceCtorEq]
          refine wpc_ret ?_
          simp only [↓stU, stD, Nat.reduceEqDiff, ↓reduceIte, reduceCtorEq]
          exact ⟨hS.trans (Same.nx S' _), .inr (by rintro rfl; exact hxy rfl)⟩
      · refine wpc_if (t := false) (by simp only [↓stU, stD, Nat.reduceEqDiff, ↓reduceIte, reduceCtorEq, decide_eq_false (show ¬ (i : Int) < ((l.length : Nat) : Int) by omega)]) (fun h => by cases h) (fun _ => wpc_exit ?_)
        simp only [↓stU, stD, Nat.reduceEqDiff, ↓reduceIte, reduceCtorEq]
        rw [List.take_of_length_le (by omega), List.take_of_length_le (by omega)] at htk
        exact ⟨hS, .inl htk⟩
    rintro o ⟨F, inr⟩ S' ⟨hS, ⟨rfl, he⟩ | ⟨rfl, p4, hne⟩⟩
    · simp only [↓stU, stD, Nat.reduceEqDiff, ↓reduceIte, reduceCtorEq]
      refine wpc_seq (wpc_reg ?_)
      simp only [↓stU, stD, Nat.reduceEqDiff, ↓reduceIte, reduceCtorEq]
      refine wpc_ret ?_
      simp only [↓stU, stD, Nat.reduceEqDiff, ↓reduceIte, reduceCtorEq, decide_eq_true he]
      exact hS
    · simp only at p4
      simp only [↓stU, stD, Nat.reduceEqDiff, ↓reduceIte, reduceCtorEq, p4, decide_eq_false hne]
      exact hS
  · refine wpc_if (t := true) (by simp only [↓stU, stD, Nat.reduceEqDiff, ↓reduceIte, reduceCtorEq, decide_eq_true (show ((l.length : Nat) : Int) ≠ ((m.length : Nat) : Int) by omega)]) (fun _ => ?_) (fun h => by cases h)
    refine wpc_seq (wpc_reg ?_)
    simp only [↓stU, stD, Nat.reduceEqDiff, ↓reduceIte, reduceCtorEq]
    refine wpc_ret ?_
    have : ¬ l = m := by rintro rfl; exact hlen rfl
    simp only [↓stU, stD, Nat.reduceEqDiff, ↓reduceIte, reduceCtorEq, decide_eq_false this]
    exact Same.refl _

theorem alike_nat {S : St} {a b : AV} {x y : Nat} (H : Has fns) (ha : NatIs S a x) (hb : NatIs S b y) (hx : Fits x) : wpf fns (.fn 38 [] []) [a, b] S fun r S' => r = .bool (decide (x = y)) ∧ Same S S' := by
  obtain ⟨l, h1, h2, h3⟩ := ha
  obtain ⟨m, k1, k2, k3⟩ := hb
  have := Fits.len h2 (by rw [h3]; exact hx)
  refine wpf_mono (alike_spec H h1 k1 (by omega)) ?_
  rintro r S' ⟨rfl, hS⟩
  refine ⟨?_, hS⟩
  congr 1
  apply decide_eq_decide.2
  rw [← h3, ← k3]
  exact ⟨fun h => by rw [h], fun h => norm_inj h2 k2 h⟩

theorem rat_eq_iff (p q : Rat) : p = q ↔ (decide (p.num < 0) = decide (q.num < 0)) ∧ p.num.natAbs = q.num.natAbs ∧ p.den = q.den := by
  constructor
  · rintro rfl; exact ⟨rfl, rfl, rfl⟩
  · rintro ⟨h1, h2, h3⟩
    have : p.num = q.num := by rw [← sg_num p, ← sg_num q, h1, h2]
    exact Rat.ext this h3

theorem sameRat_spec {S : St} {a b : AV} {p q : Rat} (H : Has fns) (ha : RatIs S a p) (hb : RatIs S b q) (hp : FitsR p) : wpf fns (.fn 14 [] []) [a, b] S fun r S' => r = .bool (decide (p = q)) ∧ Same S S' := by
  obtain ⟨nv, dv, rfl, h1, h2⟩ := ha
  obtain ⟨mv, ev, rfl, h3, h4⟩ := hb
  refine wpf_fn H.f14 (by simp) ?_
  simp only [↓stU, stD, Nat.reduceEqDiff, ↓reduceIte, reduceCtorEq]
  refine wpc_seq (wpc_reg ?_)
  refine wpo_box (by simp only [↓stU, stD, Nat.reduceEqDiff, ↓reduceIte, reduceCtorEq, cells_agg]; rfl) ?_
  intro S1 hS1 hn1 hb1
  refine wpo_box (by simp only [↓stU, stD, Nat.reduceEqDiff, ↓reduceIte, reduceCtorEq, cells_agg]; rfl) ?_
  intro S2 hS2 hn2 hb2
  simp only [↓stU, stD, Nat.reduceEqDiff, ↓reduceIte, reduceCtorEq]
  have hS := hS1.trans hS2
  have g1 : S2.h.get S.nx = some (.cells [.bool (decide (p.num < 0)), nv, dv] false 0) := by rw [hS2.2 _ (by omega)]; exact hb1
  have hpq := rat_eq_iff p q
  refine wpc_seq (wpc_mono (Q := fun o A' S' => o = .normal ∧ Same S S' ∧ tmpV 4 A'.F = .bool (decide (p = q))) ?_ ?_)
  · refine wpc_reg ?_
    by_cases e1 : decide (p.num < 0) = decide (q.num < 0)
    · simp only [↓stU, stD, Nat.reduceEqDiff, ↓reduceIte, reduceCtorEq, evQ_faddr, faddr_ptr, ld3_0 g1, ld3_0 hb2, ld3_1 g1, ld3_1 hb2, eq_bool, e1, beq_self_eq_true]
      refine wpo_call ?_
      simp only [↓stU, stD, Nat.reduceEqDiff, ↓reduceIte, reduceCtorEq]
      refine wpf_mono (alike_nat H (h1.same hS) (h3.same hS) hp.1) ?_
      rintro _ S3 ⟨rfl, hS3⟩
      have g1' : S3.h.get S.nx = some (.cells [.bool (decide (p.num < 0)), nv, dv] false 0) := by rw [hS3.2 _ (by omega)]; exact g1
      have g2' : S3.h.get S1.nx = some (.cells [.bool (decide (q.num < 0)), mv, ev] false 0) := by rw [hS3.2 _ (by omega)]; exact hb2
      by_cases e2 : p.num.natAbs = q.num.natAbs
      · simp only [↓stU, stD, Nat.reduceEqDiff, ↓reduceIte, reduceCtorEq, decide_eq_true e2, evQ_faddr, faddr_ptr, ld3_2 g1', ld3_2 g2']
        refine wpo_call ?_
        simp only [↓stU, stD, Nat.reduceEqDiff, ↓reduceIte, reduceCtorEq]
        refine wpf_mono (alike_nat H (h2.same (hS.trans hS3)) (h4.same (hS.trans hS3)) hp.2) ?_
        rintro _ S4 ⟨rfl, hS4⟩
        try simp only [↓stU, stD, Nat.reduceEqDiff, ↓reduceIte, reduceCtorEq]
        refine ⟨hS.trans (hS3.trans hS4), ?_⟩
        congr 1
        exact decide_eq_decide.2 ⟨fun h => hpq.2 ⟨e1, e2, h⟩, fun h => by rw [h]⟩
      · simp only [↓stU, stD, Nat.reduceEqDiff, ↓reduceIte, reduceCtorEq, decide_eq_false e2]
        refine ⟨hS.trans hS3, ?_⟩
        rw [decide_eq_false (fun h => e2 (hpq.1 h).2.1)]
    · have : (decide (p.num < 0) == decide (q.num < 0)) = false := by simpa using e1
      simp only [↓stU, stD, Nat.reduceEqDiff, ↓reduceIte, reduceCtorEq, evQ_faddr, faddr_ptr, ld3_0 g1, ld3_0 hb2, eq_bool, this]
      refine ⟨hS, ?_⟩
      rw [decide_eq_false (fun h => e1 (hpq.1 h).1)]
  · rintro o ⟨F, inr⟩ S' ⟨rfl, hS, p4⟩
    simp only at p4
    simp only [↓stU, stD, Nat.reduceEqDiff, ↓reduceIte, reduceCtorEq]
    refine wpc_ret ?_
    simp only [↓stU, stD, Nat.reduceEqDiff, ↓reduceIte, reduceCtorEq, p4]
    exact hS
end Go.Ev.Gl

namespace Go.Ev.Gl
variable {fns : T AFn}

def LimbsI (S : St) (v : AV) (l : List Nat) (k : Nat) (A : Act') (S' : St) : Prop :=
  A.inr = false ∧ ∃ (i : Nat) (d : List Nat) (u : AV), i + k = l.length ∧ d.length = i ∧ tmpV 0 A.F = v ∧ tmpV 3 A.F = u ∧ tmpV 4 A.F = .int .i64 (i : Int) ∧ GrIs S S' u d ∧ Same S S' ∧ Small d

def TrimI (S : St) (n : Nat) (k : Nat) (A : Act') (S' : St) : Prop :=
  S' = S ∧ A.inr = false ∧ ∃ u m, tmpV 3 A.F = u ∧ LimbIs S u m ∧ m.length = k ∧ Small m ∧ val m = n ∧ m.length ≤ 1000

theorem remB32 (e : EqT) (t : Nat) : binV .rem e (.int .u32 ((t : Nat) : Int)) (.int .u32 1000000000) = some (.int .u32 ((t % B : Nat) : Int)) := bin_rem_nat e .u32 B_pos

/-- Limbs makes a number of any list; how long it is -/
theorem limbs_spec {S : St} {v : AV} {l : List Nat} (H : Has fns) (h : LimbIs S v l) (hl : l.length ≤ 8) : wpf fns (.fn 78 [] []) [v] S fun r S' => ∃ n, NatIs S' r n ∧ n < B ^ 8 ∧ Same S S' := by
  refine wpf_fn H.f78 (by simp) ?_
  simp only [↓stU, stD, Nat.reduceEqDiff, ↓reduceIte, reduceCtorEq]
  refine wpc_seq (wpc_reg ?_)
  simp only [↓stU, stD, Nat.reduceEqDiff, ↓reduceIte, reduceCtorEq]
  refine wpc_seq (wpc_reg ?_)
  simp only [↓stU, stD, Nat.reduceEqDiff, ↓reduceIte, reduceCtorEq]
  refine wpc_seq (wpc_seq (wpc_reg ?_))
  simp only [↓stU, stD, Nat.reduceEqDiff, ↓reduceIte, reduceCtorEq]
  refine wpc_mono (Q := fun o A' S' => o = .normal ∧ LimbsI S v l 0 A' S') ?_ ?_
  · refine wpc_block (wpc_loop (LimbsI S v l) ?_ l.length _ _ ⟨rfl, 0, [], .nilsl, by omega, rfl, by simp only [↓stU, stD, Nat.reduceEqDiff, ↓reduceIte, reduceCtorEq], by simp only [↓stU, stD, Nat.reduceEqDiff, ↓reduceIte, reduceCtorEq], by simp only [↓stU, stD, Nat.reduceEqDiff, ↓reduceIte, reduceCtorEq], .inl ⟨rfl, rfl⟩, Same.refl _, Small.nil⟩)
    rintro k ⟨F, inr⟩ S' ⟨q0, i, d, u, hik, hd, p0, p3, p4, hg, hS, hsd⟩
    simp only at q0 p0 p3 p4
    subst q0
    have h' := h.same hS
    refine wpc_seq (wpc_seq (wpc_reg ?_))
    simp only [↓stU, stD, Nat.reduceEqDiff, ↓reduceIte, reduceCtorEq, p0, p4, h.len]
    by_cases hi : i < l.length
    · refine wpc_if (t := true) (by simp only [↓stU, stD, Nat.reduceEqDiff, ↓reduceIte, reduceCtorEq, decide_eq_true (show (i : Int) < ((l.length : Nat) : Int) by omega)]) (fun _ => wpc_skip ?_) (fun h => by cases h)
      simp only [↓stU, stD, Nat.reduceEqDiff, ↓reduceIte, reduceCtorEq]
      have hld := h'.ld hi
      rw [List.getD_eq_getElem?_getD] at hld
      have hrem := remB32 (.p .int) (l[i]?.getD 0)
      have hmod : l[i]?.getD 0 % B < B := Nat.mod_lt _ B_pos
      generalize l[i]?.getD 0 % B = r at hrem hmod
      obtain ⟨v', S2, happ, hg2, hS2⟩ := hg.app (w := r) (bytes := 4) hS (by unfold room; omega) (by unfold room; omega)
      refine wpc_seq (wpc_block (wpc_reg ?_))
      simp only [↓stU, stD, Nat.reduceEqDiff, ↓reduceIte, reduceCtorEq, ↓stV, stW, Nat.reduceAdd, p0, p3, p4, h.iaddr hi, hld, hrem]
      rw [evA_one (k := .u32) (n := (r : Int)) (by simp only [↓stU, stD, Nat.reduceEqDiff, ↓reduceIte, reduceCtorEq, ↓stV, stW, Nat.reduceAdd])]
      try simp only [↓stU, stD, Nat.reduceEqDiff, ↓reduceIte, reduceCtorEq, ↓stV, stW, Nat.reduceAdd]
      refine wpo_x (fun call => by simp only [↓stU, stD, Nat.reduceEqDiff, ↓reduceIte, reduceCtorEq, ↓stV, stW, Nat.reduceAdd, evX_app, p3]; exact happ) ?_
      try simp only [↓stU, stD, Nat.reduceEqDiff, ↓reduceIte, reduceCtorEq, ↓stV, stW, Nat.reduceAdd]
      refine wpc_reg ?_
      have w1 : IntKind.i64.wrap ((i : Int) + 1) = ((i + 1 : Nat) : Int) := by rw [wrap_i64 (by omega) (by omega)]; omega
      simp only [↓stU, stD, Nat.reduceEqDiff, ↓reduceIte, reduceCtorEq, ↓stV, stW, Nat.reduceAdd, p4, w1]
      exact ⟨k - 1, by omega, rfl, i + 1, d ++ [r], v', by omega, by simp [hd], by simp only [↓stU, stD, Nat.reduceEqDiff, ↓reduceIte, reduceCtorEq, ↓stV, stW, Nat.reduceAdd, p0], by simp only [↓stU, stD, Nat.reduceEqDiff, ↓reduceIte, reduceCtorEq, ↓stV, stW, Nat.reduceAdd], by simp only [↓stU, stD, Nat.reduceEqDiff, ↓reduceIte, reduceCtorEq, ↓stV, stW, Nat.reduceAdd], hg2, hS2, Small.append.2 ⟨hsd, small_one hmod⟩⟩
    · refine wpc_if (t := false) (by simp only [↓stU, stD, Nat.reduceEqDiff, ↓reduceIte, reduceCtorEq, decide_eq_false (show ¬ (i : Int) < ((l.length : Nat) : Int) by omega)]) (fun h => by cases h) (fun _ => wpc_exit ?_)
      simp only [↓stU, stD, Nat.reduceEqDiff, ↓reduceIte, reduceCtorEq]
      exact ⟨rfl, i, d, u, by omega, hd, by simp only [↓stU, stD, Nat.reduceEqDiff, ↓reduceIte, reduceCtorEq, p0], by simp only [↓stU, stD, Nat.reduceEqDiff, ↓reduceIte, reduceCtorEq, p3], by simp only [↓stU, stD, Nat.reduceEqDiff, ↓reduceIte, reduceCtorEq, p4], hg, hS, hsd⟩
  · rintro o ⟨F, inr⟩ S' ⟨rfl, q0, i, d, u, hik, hd, p0, p3, p4, hg, hS, hsd⟩
    simp only at q0 p0 p3 p4
    subst q0
    have hvl : val d < B ^ 8 := Nat.lt_of_lt_of_le (val_lt hsd) (Nat.pow_le_pow_right B_pos (by omega))
    simp only [↓stU, stD, Nat.reduceEqDiff, ↓reduceIte, reduceCtorEq]
    refine wpc_seq (wpc_mono (Q := fun o A' S'' => o = .normal ∧ S'' = S' ∧ A'.inr = false ∧ NatIs S' (tmpV 3 A'.F) (val d)) ?_ ?_)
    · refine wpc_block (wpc_loop (TrimI S' (val d)) ?_ d.length _ _ ⟨rfl, rfl, u, d, p3, hg.limbs, rfl, hsd, rfl, by omega⟩)
      rintro k ⟨F, inr⟩ S2 ⟨hS2, q0, u, m, h0, hu, hk, hsm, hv, hle⟩
      simp only at q0 h0
      subst q0
      rw [hS2]
      refine wpc_seq (wpc_seq (wpc_reg ?_))
      by_cases hm : m = []
      · subst hm
        simp only [↓stU, stD, Nat.reduceEqDiff, ↓reduceIte, reduceCtorEq, h0, hu.len]
        refine wpc_if (t := false) (by simp only [↓stU, stD, Nat.reduceEqDiff, ↓reduceIte, reduceCtorEq]; rfl) (fun h => by cases h) (fun _ => wpc_exit ?_)
        simp only [↓stU, stD, Nat.reduceEqDiff, ↓reduceIte, reduceCtorEq, h0]
        exact ⟨[], hu, norm_nil, hv⟩
      · obtain ⟨m', x, rfl⟩ : ∃ m' x, m = m' ++ [x] := ⟨m.dropLast, m.getLast hm, (List.dropLast_concat_getLast hm).symm⟩
        have hL : (m' ++ [x]).length = m'.length + 1 := by simp
        have hlt : m'.length < (m' ++ [x]).length := by omega
        have hlen' := hu.len
        rw [hL] at hlen'
        have w1 : IntKind.i64.wrap (((m'.length + 1 : Nat) : Int) - 1) = (m'.length : Int) := by rw [wrap_i64 (by omega) (by omega)]; omega
        have e2 : (m' ++ [x]).getD m'.length 0 = x := by simp
        have hld := hu.ld hlt
        rw [e2] at hld
        simp only [↓stU, stD, Nat.reduceEqDiff, ↓reduceIte, reduceCtorEq, h0, hlen', decide_eq_true (show (0 : Int) < ((m'.length + 1 : Nat) : Int) by omega), w1, hu.iaddr hlt, hld]
        by_cases hx : x = 0
        · subst hx
          refine wpc_if (t := true) (by simp only [↓stU, stD, Nat.reduceEqDiff, ↓reduceIte, reduceCtorEq]; rfl) (fun _ => wpc_skip ?_) (fun h => by cases h)
          simp only [↓stU, stD, Nat.reduceEqDiff, ↓reduceIte, reduceCtorEq]
          refine wpc_block (wpc_reg ?_)
          have hh := hu.head hlt
          rw [List.take_left' rfl] at hh
          simp only [↓stU, stD, Nat.reduceEqDiff, ↓reduceIte, reduceCtorEq, h0, hlen', w1]
          rw [hu.slc hlt (by simp only [↓stU, stD, Nat.reduceEqDiff, ↓reduceIte, reduceCtorEq])]
          simp only [↓stU, stD, Nat.reduceEqDiff, ↓reduceIte, reduceCtorEq]
          refine ⟨m'.length, by omega, rfl, rfl, _, m', by simp only [↓stU, stD, Nat.reduceEqDiff, ↓reduceIte, reduceCtorEq], hh, rfl, (Small.append.1 hsm).1, ?_, by omega⟩
          rw [← hv, val_snoc, Nat.mul_zero, Nat.add_zero]
        · refine wpc_if (t := false) (by simp only [↓stU, stD, Nat.reduceEqDiff, ↓reduceIte, reduceCtorEq, decide_eq_false (show ¬ ((x : Nat) : Int) = 0 by omega)]) (fun h => by cases h) (fun _ => wpc_exit ?_)
          simp only [↓stU, stD, Nat.reduceEqDiff, ↓reduceIte, reduceCtorEq, h0]
          exact ⟨m' ++ [x], hu, ⟨hsm, by simp [hx]⟩, hv⟩
    rintro o ⟨F, inr⟩ S2 ⟨rfl, hS2, q0, hN⟩
    simp only at q0 hN
    subst q0
    rw [hS2]
    simp only [↓stU, stD, Nat.reduceEqDiff, ↓reduceIte, reduceCtorEq]
    refine wpc_seq (wpc_reg ?_)
    simp only [↓stU, stD, Nat.reduceEqDiff, ↓reduceIte, reduceCtorEq]
    refine wpc_ret ?_
    simp only [↓stU, stD, Nat.reduceEqDiff, ↓reduceIte, reduceCtorEq]
    exact ⟨val d, hN, hvl, hS⟩

def NatOfI (S : St) (n : Nat) (k : Nat) (A : Act') (S' : St) : Prop :=
  A.inr = false ∧ ∃ (d : List Nat) (v : AV), tmpV 0 A.F = .int .i64 (k : Int) ∧ k ≤ n ∧ tmpV 3 A.F = v ∧ GrIs S S' v d ∧ Same S S' ∧ Small d ∧ val d + B ^ d.length * k = n ∧ (d = [] ∨ B ^ (d.length - 1) ≤ n)

theorem natOf_spec {S : St} {n : Nat} (H : Has fns) (hn : n ≤ 9223372036854775807) : wpf fns (.fn 61 [] []) [.int .i64 (n : Int)] S fun r S' => NatIs S' r n ∧ Same S S' := by
  refine wpf_fn H.f61 (by simp) ?_
  simp only [↓stU, stD, Nat.reduceEqDiff, ↓reduceIte, reduceCtorEq]
  refine wpc_seq (wpc_reg ?_)
  simp only [↓stU, stD, Nat.reduceEqDiff, ↓reduceIte, reduceCtorEq]
  refine wpc_seq (wpc_reg ?_)
  simp only [↓stU, stD, Nat.reduceEqDiff, ↓reduceIte, reduceCtorEq]
  refine wpc_seq (wpc_block (wpc_loop (NatOfI S n) ?_ n _ _ ⟨rfl, [], .nilsl, by simp only [↓stU, stD, Nat.reduceEqDiff, ↓reduceIte, reduceCtorEq], Nat.le_refl _, by simp only [↓stU, stD, Nat.reduceEqDiff, ↓reduceIte, reduceCtorEq], .inl ⟨rfl, rfl⟩, Same.refl S, Small.nil, by simp [val_nil], .inl rfl⟩))
  rintro k ⟨F, inr⟩ S' ⟨q0, d, v, p0, hk, p3, hv, hS, hsd, hinv, hlow⟩
  simp only at q0 p0 p3
  subst q0
  refine wpc_seq (wpc_seq (wpc_reg ?_))
  simp only [↓stU, stD, Nat.reduceEqDiff, ↓reduceIte, reduceCtorEq, ↓stV, stW, Nat.reduceAdd, p0]
  by_cases hk0 : 0 < k
  · refine wpc_if (t := true) (by simp only [↓stU, stD, Nat.reduceEqDiff, ↓reduceIte, reduceCtorEq, ↓stV, stW, Nat.reduceAdd, decide_eq_true (show (0 : Int) < (k : Int) by omega)]) (fun _ => wpc_skip ?_) (fun h => by cases h)
    try simp only [↓stU, stD, Nat.reduceEqDiff, ↓reduceIte, reduceCtorEq, ↓stV, stW, Nat.reduceAdd]
    have hquo := bin_quo_i (.p .int) (a := (k : Int)) (b := 1000000000) (by omega) (by omega) (by decide)
    rw [show (k : Int) / 1000000000 = ((k / B : Nat) : Int) from rfl] at hquo
    have hrem := bin_rem_nat (.p .int) .i64 (t := k) (d := B) B_pos
    rw [show ((B : Nat) : Int) = 1000000000 from rfl] at hrem
    have hdm : k / B * B + k % B = k := by rw [Nat.mul_comm]; exact Nat.div_add_mod k B
    have hmod : k % B < 1000000000 := Nat.mod_lt k B_pos
    have hdiv : k / B < k := Nat.div_lt_self hk0 (by decide)
    have hpow : B ^ d.length ≤ n := by
      have : B ^ d.length * 1 ≤ B ^ d.length * k := Nat.mul_le_mul_left _ hk0
      omega
    have hdl : d.length ≤ 100 := by
      rcases Nat.lt_or_ge 100 d.length with h | h
      · have h1 : B ^ 3 ≤ B ^ d.length := Nat.pow_le_pow_right B_pos (by omega)
        have h2 : (18446744073709551615 : Nat) < B ^ 3 := by decide
        omega
      · exact h
    have hstep : val d + B ^ d.length * (k % B) + B ^ (d.length + 1) * (k / B) = n := by
      rw [← hinv, Nat.pow_succ, Nat.mul_assoc, Nat.add_assoc, ← Nat.mul_add]
      congr 2
      rw [Nat.mul_comm B, Nat.add_comm]
      exact hdm
    generalize k / B = q at hdm hquo hdiv hstep
    generalize k % B = r at hdm hmod hrem hstep
    have w1 : IntKind.u32.wrap (r : Int) = (r : Int) := wrap_u32 (by omega) (by omega)
    obtain ⟨v', S2, happ, hg, hS2⟩ := hv.app (w := r) (bytes := 4) hS (by unfold room; omega) (by unfold room; omega)
    refine wpc_block (wpc_seq (wpc_reg ?_))
    simp only [↓stU, stD, Nat.reduceEqDiff, ↓reduceIte, reduceCtorEq, ↓stV, stW, Nat.reduceAdd, p0, p3, hrem, w1]
    rw [evA_one (k := .u32) (n := (r : Int)) (by simp only [↓stU, stD, Nat.reduceEqDiff, ↓reduceIte, reduceCtorEq, ↓stV, stW, Nat.reduceAdd])]
    try simp only [↓stU, stD, Nat.reduceEqDiff, ↓reduceIte, reduceCtorEq, ↓stV, stW, Nat.reduceAdd]
    refine wpo_x (fun call => by simp only [↓stU, stD, Nat.reduceEqDiff, ↓reduceIte, reduceCtorEq, ↓stV, stW, Nat.reduceAdd, evX_app, p3]; exact happ) ?_
    try simp only [↓stU, stD, Nat.reduceEqDiff, ↓reduceIte, reduceCtorEq, ↓stV, stW, Nat.reduceAdd]
    refine wpc_reg ?_
    simp only [↓stU, stD, Nat.reduceEqDiff, ↓reduceIte, reduceCtorEq, ↓stV, stW, Nat.reduceAdd, p0, hquo]
    exact ⟨q, hdiv, rfl, d ++ [r], v', by simp only [↓stU, stD, Nat.reduceEqDiff, ↓reduceIte, reduceCtorEq, ↓stV, stW, Nat.reduceAdd], by omega, by simp only [↓stU, stD, Nat.reduceEqDiff, ↓reduceIte, reduceCtorEq, ↓stV, stW, Nat.reduceAdd], hg, hS2, Small.append.2 ⟨hsd, small_one hmod⟩, by rw [val_snoc, List.length_append]; exact hstep, by right; rw [List.length_append]; exact hpow⟩
  · have hk0 : k = 0 := by omega
    subst hk0
    refine wpc_if (t := false) (by simp only [↓stU, stD, Nat.reduceEqDiff, ↓reduceIte, reduceCtorEq, ↓stV, stW, Nat.reduceAdd]; rfl) (fun h => by cases h) (fun _ => wpc_exit ?_)
    try simp only [↓stU, stD, Nat.reduceEqDiff, ↓reduceIte, reduceCtorEq, ↓stV, stW, Nat.reduceAdd]
    refine wpc_seq (wpc_reg ?_)
    simp only [↓stU, stD, Nat.reduceEqDiff, ↓reduceIte, reduceCtorEq, ↓stV, stW, Nat.reduceAdd, p3]
    refine wpc_ret ?_
    try simp only [↓stU, stD, Nat.reduceEqDiff, ↓reduceIte, reduceCtorEq, ↓stV, stW, Nat.reduceAdd]
    refine ⟨⟨d, hv.limbs, norm_of_low hsd ?_, by simpa using hinv⟩, hS⟩
    rcases hlow with h | h
    · exact .inl h
    · right
      simp at hinv
      omega

def KgI (S : St) (g : Nat) (k : Nat) (A : Act') (S' : St) : Prop :=
  A.inr = false ∧ S'.h = S.h ∧ S.nx ≤ S'.nx ∧ ∃ a b : Nat, tmpV 0 A.F = .int .i64 (a : Int) ∧ tmpV 1 A.F = .int .i64 (b : Int) ∧ a ≤ 9223372036854775807 ∧ b ≤ 9223372036854775807 ∧ Nat.gcd a b = g ∧ k = b

theorem kgcd_spec {S : St} {x y : Nat} (H : Has fns) (hx : x ≤ 9223372036854775807) (hy : y ≤ 9223372036854775807) : wpf fns (.fn 60 [] []) [.int .i64 (x : Int), .int .i64 (y : Int)] S fun r S' => r = .int .i64 ((Nat.gcd x y : Nat) : Int) ∧ Same S S' := by
  refine wpf_fn H.f60 (by simp) ?_
  try simp only [↓stU, stD, Nat.reduceEqDiff, ↓reduceIte, reduceCtorEq, ↓stV, stW, Nat.reduceAdd]
  refine wpc_seq (wpc_reg ?_)
  try simp only [↓stU, stD, Nat.reduceEqDiff, ↓reduceIte, reduceCtorEq, ↓stV, stW, Nat.reduceAdd]
  refine wpc_seq (wpc_mono (Q := fun o A' S' => o = .normal ∧ Same S S' ∧ tmpV 0 A'.F = .int .i64 ((Nat.gcd x y : Nat) : Int) ∧ Nat.gcd x y ≤ 9223372036854775807) ?_ ?_)
  · refine wpc_block (wpc_loop (KgI S (Nat.gcd x y)) ?_ y _ _ ⟨rfl, rfl, Nat.le_refl _, x, y, by simp only [↓stU, stD, Nat.reduceEqDiff, ↓reduceIte, reduceCtorEq, ↓stV, stW, Nat.reduceAdd], by simp only [↓stU, stD, Nat.reduceEqDiff, ↓reduceIte, reduceCtorEq, ↓stV, stW, Nat.reduceAdd], hx, hy, rfl, rfl⟩)
    rintro k ⟨F, inr⟩ S' ⟨q0, hh, hnx, a, b, p0, p1, ha, hb, hg, rfl⟩
    simp only at q0 p0 p1
    subst q0
    refine wpc_seq (wpc_seq (wpc_reg ?_))
    simp only [↓stU, stD, Nat.reduceEqDiff, ↓reduceIte, reduceCtorEq, ↓stV, stW, Nat.reduceAdd, p1]
    rcases Nat.eq_zero_or_pos k with h0 | hkp
    · subst h0
      refine wpc_if (t := false) (by simp only [↓stU, stD, Nat.reduceEqDiff, ↓reduceIte, reduceCtorEq, ↓stV, stW, Nat.reduceAdd]; rfl) (fun h => by cases h) (fun _ => wpc_exit ?_)
      rw [Nat.gcd_zero_right] at hg
      rw [← hg]
      simp only [↓stU, stD, Nat.reduceEqDiff, ↓reduceIte, reduceCtorEq, ↓stV, stW, Nat.reduceAdd, p0]
      exact ⟨same_of_h hh hnx, ha⟩
    · refine wpc_if (t := true) (by simp only [↓stU, stD, Nat.reduceEqDiff, ↓reduceIte, reduceCtorEq, ↓stV, stW, Nat.reduceAdd, decide_eq_true (show (k : Int) ≠ 0 by omega)]) (fun _ => wpc_skip ?_) (fun h => by cases h)
      try simp only [↓stU, stD, Nat.reduceEqDiff, ↓reduceIte, reduceCtorEq, ↓stV, stW, Nat.reduceAdd]
      have hrem := bin_rem_nat (.p .int) .i64 (t := a) (d := k) hkp
      refine wpc_block (wpc_drq ?_)
      simp only [↓stU, stD, Nat.reduceEqDiff, ↓reduceIte, reduceCtorEq, ↓stV, stW, Nat.reduceAdd, p0, p1, hrem]
      refine ⟨a % k, Nat.mod_lt _ hkp, rfl, hh, by simp; omega, k, a % k, by simp only [↓stU, stD, Nat.reduceEqDiff, ↓reduceIte, reduceCtorEq, ↓stV, stW, Nat.reduceAdd], by simp only [↓stU, stD, Nat.reduceEqDiff, ↓reduceIte, reduceCtorEq, ↓stV, stW, Nat.reduceAdd], hb, by have := Nat.mod_lt a hkp; omega, ?_, rfl⟩
      rw [← hg, Nat.gcd_comm a k, Nat.gcd_rec k a, Nat.gcd_comm]
  · rintro o ⟨F, inr⟩ S' ⟨rfl, hS, p0, hg⟩
    simp only at p0
    try simp only [↓stU, stD, Nat.reduceEqDiff, ↓reduceIte, reduceCtorEq, ↓stV, stW, Nat.reduceAdd]
    refine wpc_seq (wpc_reg ?_)
    have w1 : IntKind.i64.wrap (-((Nat.gcd x y : Nat) : Int)) = -((Nat.gcd x y : Nat) : Int) := wrap_i64 (by omega) (by omega)
    simp only [↓stU, stD, Nat.reduceEqDiff, ↓reduceIte, reduceCtorEq, ↓stV, stW, Nat.reduceAdd, p0, un_neg_i, w1, evQ_mm, mm_cons, mm_int, mm_nil]
    refine wpc_ret ?_
    have : mx ((Nat.gcd x y : Nat) : Int) (-((Nat.gcd x y : Nat) : Int)) = ((Nat.gcd x y : Nat) : Int) := by unfold mx; rw [if_pos (by omega)]
    simp only [↓stU, stD, Nat.reduceEqDiff, ↓reduceIte, reduceCtorEq, ↓stV, stW, Nat.reduceAdd, this]
    exact hS

theorem ratOf_spec {S : St} {a : Int} {b : Nat} (H : Has fns) (ha : -9223372036854775807 ≤ a ∧ a ≤ 9223372036854775807) (hb0 : 0 < b) (hb : b ≤ 9223372036854775807) : wpf fns (.fn 16 [] []) [.int .i64 a, .int .i64 (b : Int)] S fun r S' => RatIs S' r (mkRat a b) ∧ Same S S' := by
  have hg : 0 < Nat.gcd a.natAbs b := Nat.gcd_pos_of_pos_right _ hb0
  have w1 : IntKind.i64.wrap (-a) = -a := wrap_i64 (by omega) (by omega)
  have hmx : mx a (-a) = ((a.natAbs : Nat) : Int) := by unfold mx; split <;> omega
  refine wpf_fn H.f16 (by simp) ?_
  simp only [↓stU, stD, Nat.reduceEqDiff, ↓reduceIte, reduceCtorEq]
  refine wpc_seq (wpc_reg ?_)
  refine wpo_alloc ?_
  intro S1 hS1 hn1 hb1
  simp only [↓stU, stD, Nat.reduceEqDiff, ↓reduceIte, reduceCtorEq]
  refine wpc_seq (wpc_reg ?_)
  simp only [↓stU, stD, Nat.reduceEqDiff, ↓reduceIte, reduceCtorEq, ↓stV, stW, Nat.reduceAdd, un_neg_i, w1, evQ_mm, mm_cons, mm_int, mm_nil, hmx]
  refine wpo_call ?_
  try simp only [↓stU, stD, Nat.reduceEqDiff, ↓reduceIte, reduceCtorEq, ↓stV, stW, Nat.reduceAdd]
  refine wpf_mono (kgcd_spec H (by omega) hb) ?_
  rintro _ S2 ⟨rfl, hS2⟩
  try simp only [↓stU, stD, Nat.reduceEqDiff, ↓reduceIte, reduceCtorEq, ↓stV, stW, Nat.reduceAdd]
  obtain ⟨g, hge⟩ : ∃ g, g = Nat.gcd a.natAbs b := ⟨_, rfl⟩
  rw [← hge] at hg ⊢
  have hga : g ∣ a.natAbs := by rw [hge]; exact Nat.gcd_dvd_left ..
  have hgb : g ≤ 9223372036854775807 := by have := Nat.gcd_le_right a.natAbs hb0; rw [← hge] at this; omega
  -- the quotients
  have hq2 : binV .quo (.p .int) (.int .i64 (b : Int)) (.int .i64 (g : Int)) = some (.int .i64 ((b / g : Nat) : Int)) := by
    rw [bin_quo_i (.p .int) (by omega) (by omega) (by omega)]; rfl
  obtain ⟨n, hn⟩ : ∃ n, n = a.natAbs / g := ⟨_, rfl⟩
  have hnle : n ≤ 9223372036854775807 := by have := Nat.div_le_self a.natAbs g; omega
  obtain ⟨s, hs⟩ : ∃ s, s = decide (a < 0) := ⟨_, rfl⟩
  have hq1 : binV .quo (.p .int) (.int .i64 a) (.int .i64 (g : Int)) = some (.int .i64 (sg s n)) := by
    rw [bin_quo_t (.p .int) (by omega)]
    congr 2
    by_cases hneg : a < 0
    · have e1 : a = -((a.natAbs : Nat) : Int) := by omega
      have e2 : a.tdiv (g : Int) = -((n : Nat) : Int) := by
        rw [e1, Int.neg_tdiv, Int.tdiv_eq_ediv_of_nonneg (by omega), hn]
        rfl
      rw [e2, hs, decide_eq_true hneg]
      exact wrap_i64 (by omega) (by omega)
    · have e1 : a = ((a.natAbs : Nat) : Int) := by omega
      have e2 : a.tdiv (g : Int) = ((n : Nat) : Int) := by
        rw [Int.tdiv_eq_ediv_of_nonneg (by omega), e1, hn]; rfl
      rw [e2, hs, decide_eq_false hneg]
      exact wrap_i64 (by omega) (by omega)
  obtain ⟨e1, e2, e3⟩ := lowest (neg := s) (n := a.natAbs) (d := b) (g := g) hge (by omega)
  have esg : sg s a.natAbs = a := by rw [hs]; unfold sg; by_cases h : a < 0 <;> simp [h] <;> omega
  rw [esg] at e1
  rw [← hn] at e1 e2
  rw [← e1]
  have hsn : n = 0 → s = false := fun h => by
    rw [hs]
    have : a.natAbs = 0 := by
      have := Nat.div_mul_cancel hga
      rw [← hn, h] at this; omega
    exact decide_eq_false (by omega)
  have hbg : b / g ≤ 9223372036854775807 := by have := Nat.div_le_self b g; omega
  refine wpc_seq (wpc_drq ?_)
  simp only [↓stU, stD, Nat.reduceEqDiff, ↓reduceIte, reduceCtorEq, ↓stV, stW, Nat.reduceAdd, hq1, hq2]
  obtain ⟨T, hT⟩ : ∃ T : St, T = ⟨S2.h, S2.nx + 8⟩ := ⟨_, rfl⟩
  rw [← hT]
  have hST : Same S2 T := by rw [hT]; exact Same.nx S2 8
  have hS0 := hS1.trans (hS2.trans hST)
  have gT : T.h.get S.nx = some (.cells [.bool false, .nilsl, .nilsl] false 0) := by rw [hST.2 _ (by have := hS2.1; omega), hS2.2 _ (by omega)]; exact hb1
  have ltT : S.nx < T.nx := by have := hS2.1; have := hST.1; omega
  refine wpc_seq (wpc_seq (wpc_reg ?_))
  try simp only [↓stU, stD, Nat.reduceEqDiff, ↓reduceIte, reduceCtorEq, ↓stV, stW, Nat.reduceAdd]
  cases hsb : s with
  | true =>
    rw [hsb] at e1 hsn
    have hn0 : 0 < n := by rcases Nat.eq_zero_or_pos n with h | h
                           · have := hsn h; cases this
                           · exact h
    have hlt : sg true n < 0 := by show -(n : Int) < 0; omega
    have w2 : IntKind.i64.wrap (-(sg true n)) = (n : Int) := by show IntKind.i64.wrap (- -(n : Int)) = _; rw [Int.neg_neg]; exact wrap_i64 (by omega) (by omega)
    refine wpc_if (t := true) (by simp only [↓stU, stD, Nat.reduceEqDiff, ↓reduceIte, reduceCtorEq, ↓stV, stW, Nat.reduceAdd, decide_eq_true hlt]) (fun _ => ?_) (fun h => by cases h)
    refine wpc_seq (wpc_reg ?_)
    simp only [↓stU, stD, Nat.reduceEqDiff, ↓reduceIte, reduceCtorEq, ↓stV, stW, Nat.reduceAdd, un_neg_i, w2]
    refine wpo_call ?_
    try simp only [↓stU, stD, Nat.reduceEqDiff, ↓reduceIte, reduceCtorEq, ↓stV, stW, Nat.reduceAdd]
    refine wpf_mono (natOf_spec H hnle) ?_
    rintro nv S3 ⟨hnv, hS3⟩
    try simp only [↓stU, stD, Nat.reduceEqDiff, ↓reduceIte, reduceCtorEq, ↓stV, stW, Nat.reduceAdd]
    refine wpo_call ?_
    try simp only [↓stU, stD, Nat.reduceEqDiff, ↓reduceIte, reduceCtorEq, ↓stV, stW, Nat.reduceAdd]
    refine wpf_mono (natOf_spec H hbg) ?_
    rintro dv S4 ⟨hdv, hS4⟩
    have hbd : ∀ F : Fr, tmpV 22 F = nv → tmpV 24 F = dv → evQ (.build [(.bool false), .nilsl, .nilsl] [(0, 1, (.c (.bool true))), (1, 1, (.t 22)), (2, 1, (.t 24))]) F S4.h = some (.agg [.bool true, nv, dv]) := fun F h h' => by
      show osel (fillP [.bool false, .nilsl, .nilsl] [(0, 1, .bool true), (1, 1, tmpV 22 F), (2, 1, tmpV 24 F)]) (fun cs => some (AV.agg cs)) = _
      rw [h, h']
      simp only [fillP, cells_bool, nat_cells hnv, nat_cells hdv, osel_some]
      rfl
    try simp only [↓stU, stD, Nat.reduceEqDiff, ↓reduceIte, reduceCtorEq, ↓stV, stW, Nat.reduceAdd]
    rw [hbd _ (by simp only [↓stU, stD, Nat.reduceEqDiff, ↓reduceIte, reduceCtorEq, ↓stV, stW, Nat.reduceAdd]) (by simp only [↓stU, stD, Nat.reduceEqDiff, ↓reduceIte, reduceCtorEq, ↓stV, stW, Nat.reduceAdd])]
    try simp only [↓stU, stD, Nat.reduceEqDiff, ↓reduceIte, reduceCtorEq, ↓stV, stW, Nat.reduceAdd]
    have g4 : S4.h.get S.nx = some (.cells [.bool false, .nilsl, .nilsl] false 0) := by rw [hS4.2 _ (by have := hS3.1; omega), hS3.2 _ ltT]; exact gT
    refine wpo_st (b := S.nx) (by simp only [↓stU, stD, Nat.reduceEqDiff, ↓reduceIte, reduceCtorEq, ↓stV, stW, Nat.reduceAdd]) (by simp only [↓stU, stD, Nat.reduceEqDiff, ↓reduceIte, reduceCtorEq, ↓stV, stW, Nat.reduceAdd, cells_agg]; rfl) g4 rfl rfl ?_
    intro S5 hS5 hn5 hb5
    try simp only [↓stU, stD, Nat.reduceEqDiff, ↓reduceIte, reduceCtorEq, ↓stV, stW, Nat.reduceAdd]
    refine wpc_ret ?_
    simp only [↓stU, stD, Nat.reduceEqDiff, ↓reduceIte, reduceCtorEq, ↓stV, stW, Nat.reduceAdd, results_cell, ld3 hb5]
    exact ⟨ratIs_mk ((hnv.same hS4).st g4 rfl hS5 hb5) (hdv.st g4 rfl hS5 hb5) e3 e2 hsn, hS5.same (hS0.trans (hS3.trans hS4)) (Nat.le_refl _)⟩
  | false =>
    rw [hsb] at e1
    have hlt : ¬ sg false n < 0 := by show ¬ (n : Int) < 0; omega
    refine wpc_if (t := false) (by simp only [↓stU, stD, Nat.reduceEqDiff, ↓reduceIte, reduceCtorEq, ↓stV, stW, Nat.reduceAdd, decide_eq_false hlt]) (fun h => by cases h) (fun _ => wpc_skip ?_)
    try simp only [↓stU, stD, Nat.reduceEqDiff, ↓reduceIte, reduceCtorEq, ↓stV, stW, Nat.reduceAdd]
    refine wpc_seq (wpc_reg ?_)
    simp only [↓stU, stD, Nat.reduceEqDiff, ↓reduceIte, reduceCtorEq, ↓stV, stW, Nat.reduceAdd, show sg false n = (n : Int) from rfl]
    refine wpo_call ?_
    try simp only [↓stU, stD, Nat.reduceEqDiff, ↓reduceIte, reduceCtorEq, ↓stV, stW, Nat.reduceAdd]
    refine wpf_mono (natOf_spec H hnle) ?_
    rintro nv S3 ⟨hnv, hS3⟩
    try simp only [↓stU, stD, Nat.reduceEqDiff, ↓reduceIte, reduceCtorEq, ↓stV, stW, Nat.reduceAdd]
    refine wpo_call ?_
    try simp only [↓stU, stD, Nat.reduceEqDiff, ↓reduceIte, reduceCtorEq, ↓stV, stW, Nat.reduceAdd]
    refine wpf_mono (natOf_spec H hbg) ?_
    rintro dv S4 ⟨hdv, hS4⟩
    have hbd : ∀ F : Fr, tmpV 27 F = nv → tmpV 29 F = dv → evQ (.build [(.bool false), .nilsl, .nilsl] [(1, 1, (.t 27)), (2, 1, (.t 29))]) F S4.h = some (.agg [.bool false, nv, dv]) := fun F h h' => by
      show osel (fillP [.bool false, .nilsl, .nilsl] [(1, 1, tmpV 27 F), (2, 1, tmpV 29 F)]) (fun cs => some (AV.agg cs)) = _
      rw [h, h']
      simp only [fillP, nat_cells hnv, nat_cells hdv, osel_some]
      rfl
    try simp only [↓stU, stD, Nat.reduceEqDiff, ↓reduceIte, reduceCtorEq, ↓stV, stW, Nat.reduceAdd]
    rw [hbd _ (by simp only [↓stU, stD, Nat.reduceEqDiff, ↓reduceIte, reduceCtorEq, ↓stV, stW, Nat.reduceAdd]) (by simp only [↓stU, stD, Nat.reduceEqDiff, ↓reduceIte, reduceCtorEq, ↓stV, stW, Nat.reduceAdd])]
    try simp only [↓stU, stD, Nat.reduceEqDiff, ↓reduceIte, reduceCtorEq, ↓stV, stW, Nat.reduceAdd]
    have g4 : S4.h.get S.nx = some (.cells [.bool false, .nilsl, .nilsl] false 0) := by rw [hS4.2 _ (by have := hS3.1; omega), hS3.2 _ ltT]; exact gT
    refine wpo_st (b := S.nx) (by simp only [↓stU, stD, Nat.reduceEqDiff, ↓reduceIte, reduceCtorEq, ↓stV, stW, Nat.reduceAdd]) (by simp only [↓stU, stD, Nat.reduceEqDiff, ↓reduceIte, reduceCtorEq, ↓stV, stW, Nat.reduceAdd, cells_agg]; rfl) g4 rfl rfl ?_
    intro S5 hS5 hn5 hb5
    try simp only [↓stU, stD, Nat.reduceEqDiff, ↓reduceIte, reduceCtorEq, ↓stV, stW, Nat.reduceAdd]
    refine wpc_ret ?_
    simp only [↓stU, stD, Nat.reduceEqDiff, ↓reduceIte, reduceCtorEq, ↓stV, stW, Nat.reduceAdd, results_cell, ld3 hb5]
    exact ⟨ratIs_mk ((hnv.same hS4).st g4 rfl hS5 hb5) (hdv.st g4 rfl hS5 hb5) e3 e2 (fun _ => rfl), hS5.same (hS0.trans (hS3.trans hS4)) (Nat.le_refl _)⟩
end Go.Ev.Gl

namespace Go.Ev.Gl
variable {fns : T AFn}

theorem of_spec' {S : St} {a : Int} {b : Nat} (H : Has fns) (ha : -9223372036854775807 ≤ a ∧ a ≤ 9223372036854775807) (hb0 : 0 < b) (hb : b ≤ 9223372036854775807) : wpf fns (.fn 19 [] []) [.int .i64 a, .int .i64 (b : Int)] S fun r S' => RatIs S' r (mkRat a b) ∧ Same S S' := by
  refine wpf_fn H.f19 (by simp) ?_
  simp only [↓stU, stD, Nat.reduceEqDiff, ↓reduceIte, reduceCtorEq]
  refine wpc_seq (wpc_reg ?_)
  refine wpo_alloc ?_
  intro S1 hS1 hn1 hb1
  simp only [↓stU, stD, Nat.reduceEqDiff, ↓reduceIte, reduceCtorEq]
  refine wpc_seq (wpc_reg ?_)
  simp only [↓stU, stD, Nat.reduceEqDiff, ↓reduceIte, reduceCtorEq]
  refine wpo_call ?_
  simp only [↓stU, stD, Nat.reduceEqDiff, ↓reduceIte, reduceCtorEq]
  refine wpf_mono (ratOf_spec H ha hb0 hb) ?_
  rintro v S2 ⟨hv, hS2⟩
  obtain ⟨c0, c1, c2, rfl⟩ := hv.cells
  have g2 : S2.h.get S.nx = some (.cells [.bool false, .nilsl, .nilsl] false 0) := by rw [hS2.2 _ (by omega)]; exact hb1
  refine wpo_st (b := S.nx) (by simp only [↓stU, stD, Nat.reduceEqDiff, ↓reduceIte, reduceCtorEq]) (by simp only [↓stU, stD, Nat.reduceEqDiff, ↓reduceIte, reduceCtorEq, cells_agg]; rfl) g2 rfl rfl ?_
  intro S3 hS3 hn3 hb3
  simp only [↓stU, stD, Nat.reduceEqDiff, ↓reduceIte, reduceCtorEq]
  refine wpc_ret ?_
  simp only [↓stU, stD, Nat.reduceEqDiff, ↓reduceIte, reduceCtorEq, results_cell, ld3 hb3]
  exact ⟨hv.st g2 rfl hS3 hb3, hS3.same (hS1.trans hS2) (Nat.le_refl _)⟩

theorem sum_spec {S : St} {a b : AV} {p q : Rat} (H : Has fns) (hL : Laid S) (ha : RatIs S a p) (hb : RatIs S b q) (hp : InBound p) (hq : InBound q) (hin : InBound (p + q)) : wpf fns (.fn 20 [] []) [a, b] S fun r S' => RatIs S' r (p + q) ∧ Same S S' := by
  obtain ⟨a0, a1, a2, rfl⟩ := ha.cells
  obtain ⟨b0, b1, b2, rfl⟩ := hb.cells
  refine wpf_fn H.f20 (by simp) ?_
  simp only [↓stU, stD, Nat.reduceEqDiff, ↓reduceIte, reduceCtorEq]
  refine wpc_seq (wpc_reg ?_)
  refine wpo_box (by simp only [↓stU, stD, Nat.reduceEqDiff, ↓reduceIte, reduceCtorEq, cells_agg]; rfl) ?_
  intro S1 hS1 hn1 hc1
  refine wpo_box (by simp only [↓stU, stD, Nat.reduceEqDiff, ↓reduceIte, reduceCtorEq, cells_agg]; rfl) ?_
  intro S2 hS2 hn2 hc2
  refine wpo_alloc ?_
  intro S3 hS3 hn3 hc3
  simp only [↓stU, stD, Nat.reduceEqDiff, ↓reduceIte, reduceCtorEq]
  have g1 : S3.h.get S.nx = some (.cells [a0, a1, a2] false 0) := by rw [hS3.2 _ (by omega), hS2.2 _ (by omega)]; exact hc1
  have g2 : S3.h.get S1.nx = some (.cells [b0, b1, b2] false 0) := by rw [hS3.2 _ (by omega)]; exact hc2
  have hS := hS1.trans (hS2.trans hS3)
  refine wpc_seq (wpc_reg ?_)
  simp only [↓stU, stD, Nat.reduceEqDiff, ↓reduceIte, reduceCtorEq, ld3 g1, ld3 g2]
  refine wpo_call ?_
  simp only [↓stU, stD, Nat.reduceEqDiff, ↓reduceIte, reduceCtorEq]
  refine wpf_mono (radd_spec H (hL.same hS) (ha.same hS) (hb.same hS) hp hq hin) ?_
  rintro _ S4 ⟨v, rfl, hv, hS4⟩
  obtain ⟨c0, c1, c2, rfl⟩ := hv.cells
  simp only [↓stU, stD, Nat.reduceEqDiff, ↓reduceIte, reduceCtorEq, ex0, ex1]
  refine wpo_alloc ?_
  intro S5 hS5 hn5 hc5
  refine wpo_st (b := S4.nx) (by simp only [↓stU, stD, Nat.reduceEqDiff, ↓reduceIte, reduceCtorEq]) (by simp only [↓stU, stD, Nat.reduceEqDiff, ↓reduceIte, reduceCtorEq, cells_agg]; rfl) hc5 rfl rfl ?_
  intro S6 hS6 hn6 hb6
  simp only [↓stU, stD, Nat.reduceEqDiff, ↓reduceIte, reduceCtorEq]
  have h46 : Same S4 S6 := hS6.same hS5 (Nat.le_refl _)
  have g6 : S6.h.get S2.nx = some (.cells [.bool false, .nilsl, .nilsl] false 0) := by rw [h46.2 _ (by have := hS4.1; omega), hS4.2 _ (by omega)]; exact hc3
  refine wpc_seq (wpc_reg ?_)
  simp only [↓stU, stD, Nat.reduceEqDiff, ↓reduceIte, reduceCtorEq, ld3 hb6]
  refine wpo_st (b := S2.nx) (by simp only [↓stU, stD, Nat.reduceEqDiff, ↓reduceIte, reduceCtorEq]) (by simp only [↓stU, stD, Nat.reduceEqDiff, ↓reduceIte, reduceCtorEq, cells_agg]; rfl) g6 rfl rfl ?_
  intro S7 hS7 hn7 hb7
  simp only [↓stU, stD, Nat.reduceEqDiff, ↓reduceIte, reduceCtorEq]
  refine wpc_ret ?_
  simp only [↓stU, stD, Nat.reduceEqDiff, ↓reduceIte, reduceCtorEq, results_cell, ld3 hb7]
  exact ⟨(hv.same h46).st g6 rfl hS7 hb7, hS7.same (hS.trans (hS4.trans h46)) (by omega)⟩

theorem product_spec {S : St} {a b : AV} {p q : Rat} (H : Has fns) (hL : Laid S) (ha : RatIs S a p) (hb : RatIs S b q) (hp : InBound p) (hq : InBound q) (hin : InBound (p * q)) : wpf fns (.fn 35 [] []) [a, b] S fun r S' => RatIs S' r (p * q) ∧ Same S S' := by
  obtain ⟨a0, a1, a2, rfl⟩ := ha.cells
  obtain ⟨b0, b1, b2, rfl⟩ := hb.cells
  refine wpf_fn H.f35 (by simp) ?_
  simp only [↓stU, stD, Nat.reduceEqDiff, ↓reduceIte, reduceCtorEq]
  refine wpc_seq (wpc_reg ?_)
  refine wpo_box (by simp only [↓stU, stD, Nat.reduceEqDiff, ↓reduceIte, reduceCtorEq, cells_agg]; rfl) ?_
  intro S1 hS1 hn1 hc1
  refine wpo_box (by simp only [↓stU, stD, Nat.reduceEqDiff, ↓reduceIte, reduceCtorEq, cells_agg]; rfl) ?_
  intro S2 hS2 hn2 hc2
  refine wpo_alloc ?_
  intro S3 hS3 hn3 hc3
  simp only [↓stU, stD, Nat.reduceEqDiff, ↓reduceIte, reduceCtorEq]
  have g1 : S3.h.get S.nx = some (.cells [a0, a1, a2] false 0) := by rw [hS3.2 _ (by omega), hS2.2 _ (by omega)]; exact hc1
  have g2 : S3.h.get S1.nx = some (.cells [b0, b1, b2] false 0) := by rw [hS3.2 _ (by omega)]; exact hc2
  have hS := hS1.trans (hS2.trans hS3)
  refine wpc_seq (wpc_reg ?_)
  simp only [↓stU, stD, Nat.reduceEqDiff, ↓reduceIte, reduceCtorEq, ld3 g1, ld3 g2]
  refine wpo_call ?_
  simp only [↓stU, stD, Nat.reduceEqDiff, ↓reduceIte, reduceCtorEq]
  refine wpf_mono (rmul_spec H (hL.same hS) (ha.same hS) (hb.same hS) hp hq hin) ?_
  rintro _ S4 ⟨v, rfl, hv, hS4⟩
  obtain ⟨c0, c1, c2, rfl⟩ := hv.cells
  simp only [↓stU, stD, Nat.reduceEqDiff, ↓reduceIte, reduceCtorEq, ex0, ex1]
  refine wpo_alloc ?_
  intro S5 hS5 hn5 hc5
  refine wpo_st (b := S4.nx) (by simp only [↓stU, stD, Nat.reduceEqDiff, ↓reduceIte, reduceCtorEq]) (by simp only [↓stU, stD, Nat.reduceEqDiff, ↓reduceIte, reduceCtorEq, cells_agg]; rfl) hc5 rfl rfl ?_
  intro S6 hS6 hn6 hb6
  simp only [↓stU, stD, Nat.reduceEqDiff, ↓reduceIte, reduceCtorEq]
  have h46 : Same S4 S6 := hS6.same hS5 (Nat.le_refl _)
  have g6 : S6.h.get S2.nx = some (.cells [.bool false, .nilsl, .nilsl] false 0) := by rw [h46.2 _ (by have := hS4.1; omega), hS4.2 _ (by omega)]; exact hc3
  refine wpc_seq (wpc_reg ?_)
  simp only [↓stU, stD, Nat.reduceEqDiff, ↓reduceIte, reduceCtorEq, ld3 hb6]
  refine wpo_st (b := S2.nx) (by simp only [↓stU, stD, Nat.reduceEqDiff, ↓reduceIte, reduceCtorEq]) (by simp only [↓stU, stD, Nat.reduceEqDiff, ↓reduceIte, reduceCtorEq, cells_agg]; rfl) g6 rfl rfl ?_
  intro S7 hS7 hn7 hb7
  simp only [↓stU, stD, Nat.reduceEqDiff, ↓reduceIte, reduceCtorEq]
  refine wpc_ret ?_
  simp only [↓stU, stD, Nat.reduceEqDiff, ↓reduceIte, reduceCtorEq, results_cell, ld3 hb7]
  exact ⟨(hv.same h46).st g6 rfl hS7 hb7, hS7.same (hS.trans (hS4.trans h46)) (by omega)⟩

theorem bnd_mk {s : Bool} {n d : Nat} (hn : n < B ^ 8) (hd : d < B ^ 8) (h0 : 0 < d) : Bnd 8 (mkRat (sg s n) d) := by
  obtain ⟨h1, h2⟩ := mkRat_le (n := sg s n) (d := d) (by omega)
  rw [sg_natAbs] at h1
  exact ⟨by omega, by omega⟩
theorem Bnd.inBound {k : Nat} {q : Rat} (h : Bnd k q) (hk : k ≤ 1024) : InBound q := by unfold InBound; exact Bnd.mono (j := 1024) h hk

theorem number_spec {S : St} {a b : AV} {l m : List Nat} {neg : Bool} (H : Has fns) (hL : Laid S) (ha : LimbIs S a l) (hb : LimbIs S b m) (hl : l.length ≤ 8) (hm : m.length ≤ 8) : wpf fns (.fn 33 [] []) [a, b, .bool neg] S fun r S' => ∃ v q, r = .tup [v, .bool true] ∧ RatIs S' v q ∧ Bnd 8 q ∧ Same S S' := by
  refine wpf_fn H.f33 (by simp) ?_
  simp only [↓stU, stD, Nat.reduceEqDiff, ↓reduceIte, reduceCtorEq]
  refine wpc_seq (wpc_reg ?_)
  refine wpo_alloc ?_
  intro S1 hS1 hn1 hc1
  simp only [↓stU, stD, Nat.reduceEqDiff, ↓reduceIte, reduceCtorEq]
  refine wpc_seq (wpc_reg ?_)
  simp only [↓stU, stD, Nat.reduceEqDiff, ↓reduceIte, reduceCtorEq]
  refine wpo_call ?_
  simp only [↓stU, stD, Nat.reduceEqDiff, ↓reduceIte, reduceCtorEq]
  refine wpf_mono (limbs_spec H (hb.same hS1) hm) ?_
  rintro dv S2 ⟨d, hd, hd8, hS2⟩
  try simp only [↓stU, stD, Nat.reduceEqDiff, ↓reduceIte, reduceCtorEq]
  obtain ⟨k, hk, hk0⟩ := lenpos hd
  refine wpc_seq (wpc_mono (Q := fun o A' S' => o = .normal ∧ A'.inr = false ∧ Same S2 S' ∧ tmpV 0 A'.F = a ∧ tmpV 2 A'.F = .bool neg ∧ tmpV 6 A'.F = .ptr S.nx 0 ∧ ∃ dv d, tmpV 8 A'.F = dv ∧ NatIs S' dv d ∧ 0 < d ∧ d < B ^ 8) ?_ ?_)
  · refine wpc_seq (wpc_reg ?_)
    simp only [↓stU, stD, Nat.reduceEqDiff, ↓reduceIte, reduceCtorEq, hk]
    by_cases h0 : k = 0
    · refine wpc_if (t := true) (by simp only [↓stU, stD, Nat.reduceEqDiff, ↓reduceIte, reduceCtorEq, decide_eq_true (show (k : Int) = 0 by omega)]) (fun _ => wpc_reg ?_) (fun h => by cases h)
      refine wpo_al (evA_one (k := .u32) (n := 1) (by simp only [↓stU, stD, Nat.reduceEqDiff, ↓reduceIte, reduceCtorEq])) ?_
      intro S3 hS3 hn3 hc3
      simp only [↓stU, stD, Nat.reduceEqDiff, ↓reduceIte, reduceCtorEq]
      refine ⟨hS3, _, 1, rfl, ⟨[1], ?_, norm_one, val_one⟩, by decide, by decide⟩
      exact limbs_own (l := [1]) (b := S2.nx) (n := 1) (cap := 1) (o' := false) hc3 (by omega) rfl (Nat.le_refl _)
    · refine wpc_if (t := false) (by simp only [↓stU, stD, Nat.reduceEqDiff, ↓reduceIte, reduceCtorEq, decide_eq_false (show ¬ (k : Int) = 0 by omega)]) (fun h => by cases h) (fun _ => wpc_skip ?_)
      simp only [↓stU, stD, Nat.reduceEqDiff, ↓reduceIte, reduceCtorEq]
      refine ⟨Same.refl _, _, d, rfl, hd, ?_, hd8⟩
      rcases Nat.eq_zero_or_pos d with h | h
      · exact absurd (hk0.2 h) h0
      · exact h
  rintro o ⟨F, inr⟩ S3 ⟨rfl, q0, hS3, p0, p2, p6, dv, d, p8, hd, hdp, hd8⟩
  simp only at q0 p0 p2 p6 p8
  subst q0
  try simp only [↓stU, stD, Nat.reduceEqDiff, ↓reduceIte, reduceCtorEq]
  have hS13 := hS1.trans (hS2.trans hS3)
  refine wpc_seq (wpc_reg ?_)
  simp only [↓stU, stD, Nat.reduceEqDiff, ↓reduceIte, reduceCtorEq, p0, p2]
  refine wpo_call ?_
  simp only [↓stU, stD, Nat.reduceEqDiff, ↓reduceIte, reduceCtorEq]
  refine wpf_mono (limbs_spec H (ha.same hS13) hl) ?_
  rintro nv S4 ⟨n, hn, hn8, hS4⟩
  simp only [↓stU, stD, Nat.reduceEqDiff, ↓reduceIte, reduceCtorEq, p8]
  refine wpo_call ?_
  simp only [↓stU, stD, Nat.reduceEqDiff, ↓reduceIte, reduceCtorEq]
  refine wpf_mono (make_spec (neg := neg) H (hL.same (hS13.trans hS4)) hn (hd.same hS4) (pow_up (j := 1024) hn8 (by decide)) (pow_up (j := 1024) hd8 (by decide)) hdp) ?_
  rintro _ S5 ⟨v, rfl, hv, hS5⟩
  have hq8 := bnd_mk (s := neg) hn8 hd8 hdp
  generalize mkRat (sg neg n) d = q at *
  obtain ⟨c0, c1, c2, rfl⟩ := hv.cells
  simp only [↓stU, stD, Nat.reduceEqDiff, ↓reduceIte, reduceCtorEq, ex0, ex1]
  refine wpo_alloc ?_
  intro S6 hS6 hn6 hc6
  refine wpo_st (b := S5.nx) (by simp only [↓stU, stD, Nat.reduceEqDiff, ↓reduceIte, reduceCtorEq]) (by simp only [↓stU, stD, Nat.reduceEqDiff, ↓reduceIte, reduceCtorEq, cells_agg]; rfl) hc6 rfl rfl ?_
  intro S7 hS7 hn7 hb7
  simp only [↓stU, stD, Nat.reduceEqDiff, ↓reduceIte, reduceCtorEq]
  have h57 : Same S5 S7 := hS7.same hS6 (Nat.le_refl _)
  have h17 := (hS2.trans hS3).trans (hS4.trans (hS5.trans h57))
  have g7 : S7.h.get S.nx = some (.cells [.bool false, .nilsl, .nilsl] false 0) := by rw [h17.2 _ (by omega)]; exact hc1
  have hv7 := hv.same h57
  have l15 := ((hS2.trans hS3).trans (hS4.trans hS5)).1
  have lt5 : S5.nx < S7.nx := by omega
  have ne5 : ¬ S5.nx = S.nx := by omega
  refine wpc_seq (wpc_drd1 (fun c => c = S.nx) ?_)
  intro S8 hS8
  simp only [↓stU, stD, Nat.reduceEqDiff, ↓reduceIte, reduceCtorEq, ↓stV, stW, Nat.reduceAdd, ld3 hb7, lt5, ne5, not_false_eq_true, self_rat hv7, decide_true]
  refine runD_call0 rfl ?_
  try simp only [↓stU, stD, Nat.reduceEqDiff, ↓reduceIte, reduceCtorEq, ↓stV, stW, Nat.reduceAdd]
  refine wpf_mono (check_ok H (hL.same (hS1.trans (h17.trans hS8))) (hv7.same hS8) (hq8.inBound (by decide))) ?_
  rintro _ S9 ⟨rfl, hS9⟩
  refine ⟨hS9, ?_⟩
  simp only [↓stU, stD, Nat.reduceEqDiff, ↓reduceIte, reduceCtorEq, ↓stV, stW, Nat.reduceAdd, decide_true]
  have g9 : S9.h.get S.nx = some (.cells [.bool false, .nilsl, .nilsl] false 0) := by rw [hS9.2 _ (by have := hS8.1; omega), hS8.2 _ (by omega)]; exact g7
  refine runD_st0 (b := S.nx) rfl (by simp only [↓stU, stD, Nat.reduceEqDiff, ↓reduceIte, reduceCtorEq, ↓stV, stW, Nat.reduceAdd, p6]) (by simp only [↓stU, stD, Nat.reduceEqDiff, ↓reduceIte, reduceCtorEq, ↓stV, stW, Nat.reduceAdd, cells_agg]; rfl) g9 rfl rfl rfl ?_
  intro S10 hS10 hn10 hb10
  simp only [↓stU, stD, Nat.reduceEqDiff, ↓reduceIte, reduceCtorEq, ↓stV, stW, Nat.reduceAdd]
  refine wpc_ret ?_
  simp only [↓stU, stD, Nat.reduceEqDiff, ↓reduceIte, reduceCtorEq, ↓stV, stW, Nat.reduceAdd, results_cell, p6, ld3 hb10]
  exact ⟨_, q, rfl, (hv7.same (hS8.trans hS9)).st g9 rfl hS10 hb10, hq8, hS10.same (hS1.trans (h17.trans (hS8.trans hS9))) (Nat.le_refl _)⟩
end Go.Ev.Gl

namespace Go.Ev.Gl
variable {fns : T AFn}

/-! ## Comparing -/
def cmpR (p q : Rat) : Int := if p < q then -1 else if p = q then 0 else 1
theorem num_lt (p q : Rat) : p < q ↔ p.num * q.den < q.num * p.den := Rat.lt_iff p q
theorem num_eq (p q : Rat) : p = q ↔ p.num * q.den = q.num * p.den := by
  constructor
  · rintro rfl; rfl
  · intro h
    have h1 : ¬ p < q := fun h' => by have := (num_lt p q).1 h'; omega
    have h2 : ¬ q < p := fun h' => by have := (num_lt q p).1 h'; omega
    exact Rat.le_antisymm (Rat.not_lt.1 h2) (Rat.not_lt.1 h1)
theorem den_pos (q : Rat) : (0 : Int) < q.den := by have := q.den_nz; omega

theorem cmpR_lt {p q : Rat} (h : sgn p < sgn q) : cmpR p q = -1 := by
  unfold cmpR
  rw [if_pos]
  rw [num_lt]
  have hp := den_pos p
  have hq := den_pos q
  unfold sgn at h
  rcases Int.lt_trichotomy p.num 0 with h1 | h1 | h1
  · have a := Int.mul_neg_of_neg_of_pos h1 hq
    by_cases h2 : q.num < 0
    · rw [if_neg (by omega), if_pos h1, if_neg (by omega), if_pos h2] at h; omega
    · have := Int.mul_nonneg (show 0 ≤ q.num by omega) (Int.le_of_lt hp); omega
  · rw [h1, Int.zero_mul]
    rw [if_pos h1] at h
    split at h
    · omega
    · split at h
      · omega
      · exact Int.mul_pos (by omega) hp
  · exfalso
    rw [if_neg (by omega), if_neg (by omega)] at h
    split at h
    · omega
    · split at h <;> omega
theorem cmpR_swap (p q : Rat) : cmpR q p = -cmpR p q := by
  unfold cmpR
  rcases Int.lt_trichotomy (p.num * q.den) (q.num * p.den) with h | h | h
  · rw [if_neg (fun h' => by have := (num_lt q p).1 h'; omega), if_neg (fun h' => by have := (num_eq q p).1 h'; omega), if_pos ((num_lt p q).2 h)]; rfl
  · have e := (num_eq p q).2 h
    subst e
    rw [if_neg (fun h' => by have := (num_lt p p).1 h'; omega), if_pos rfl]; rfl
  · rw [if_pos ((num_lt q p).2 h), if_neg (fun h' => by have := (num_lt p q).1 h'; omega), if_neg (fun h' => by have := (num_eq p q).1 h'; omega)]
theorem cmpR_gt {p q : Rat} (h : sgn q < sgn p) : cmpR p q = 1 := by rw [cmpR_swap q p, cmpR_lt h]; rfl
/-- where the signs agree: the products of the sizes -/
theorem cmpR_eq {p q : Rat} (h : sgn p = sgn q) : cmpR p q = (sgn p - 1) * cmpI (p.num.natAbs * q.den) (q.num.natAbs * p.den) := by
  have hp := den_pos p
  have hq := den_pos q
  have e1 : ((p.num.natAbs * q.den : Nat) : Int) = (p.num.natAbs : Int) * q.den := by rw [Int.natCast_mul]
  have e2 : ((q.num.natAbs * p.den : Nat) : Int) = (q.num.natAbs : Int) * p.den := by rw [Int.natCast_mul]
  have l := num_lt p q
  have e := num_eq p q
  rcases Int.lt_trichotomy p.num 0 with h1 | h1 | h1
  · have hs : sgn p = 0 := by unfold sgn; rw [if_neg (by omega), if_pos h1]
    have h2 : q.num < 0 := by
      rw [hs] at h; unfold sgn at h
      split at h
      · omega
      · split at h
        · assumption
        · omega
    rw [show (p.num.natAbs : Int) = -p.num by omega, Int.neg_mul] at e1
    rw [show (q.num.natAbs : Int) = -q.num by omega, Int.neg_mul] at e2
    rw [hs]
    unfold cmpR cmpI
    by_cases c1 : p < q
    · have := l.1 c1
      rw [if_pos c1, if_neg (by omega), if_neg (by omega)]; rfl
    · have n1 : ¬ p.num * q.den < q.num * p.den := fun x => c1 (l.2 x)
      by_cases c2 : p = q
      · have := e.1 c2
        rw [if_neg c1, if_pos c2, if_neg (by omega), if_pos (by omega)]; rfl
      · have n2 : ¬ p.num * q.den = q.num * p.den := fun x => c2 (e.2 x)
        rw [if_neg c1, if_neg c2, if_pos (by omega)]; rfl
  · have hs : sgn p = 1 := by unfold sgn; rw [if_pos h1]
    have h2 : q.num = 0 := by
      rw [hs] at h; unfold sgn at h
      split at h
      · assumption
      · split at h <;> omega
    rw [hs]
    have hpq : p = q := e.2 (by rw [h1, h2, Int.zero_mul, Int.zero_mul])
    unfold cmpR
    rw [if_neg (fun x => by have := l.1 x; rw [h1, h2, Int.zero_mul, Int.zero_mul] at this; omega), if_pos hpq]
    simp
  · have hs : sgn p = 2 := by unfold sgn; rw [if_neg (by omega), if_neg (by omega)]
    have h2 : 0 < q.num := by
      rw [hs] at h; unfold sgn at h
      split at h
      · omega
      · split at h
        · omega
        · omega
    rw [show (p.num.natAbs : Int) = p.num by omega] at e1
    rw [show (q.num.natAbs : Int) = q.num by omega] at e2
    rw [hs]
    unfold cmpR cmpI
    by_cases c1 : p < q
    · have := l.1 c1
      rw [if_pos c1, if_pos (by omega)]; rfl
    · have n1 : ¬ p.num * q.den < q.num * p.den := fun x => c1 (l.2 x)
      by_cases c2 : p = q
      · have := e.1 c2
        rw [if_neg c1, if_pos c2, if_neg (by omega), if_pos (by omega)]; rfl
      · have n2 : ¬ p.num * q.den = q.num * p.den := fun x => c2 (e.2 x)
        rw [if_neg c1, if_neg c2, if_neg (by omega), if_neg (by omega)]; rfl

theorem bin_muli (e : EqT) {a b : Int} (h1 : -9223372036854775808 ≤ a * b) (h2 : a * b ≤ 9223372036854775807) : binV .mul e (.int .i64 a) (.int .i64 b) = some (.int .i64 (a * b)) := by
  rw [bin_mul, wrap_i64 h1 h2]
theorem sgn_cases (q : Rat) : sgn q = 0 ∨ sgn q = 1 ∨ sgn q = 2 := by unfold sgn; split <;> (try split) <;> simp
theorem cmpI_cases (x y : Nat) : cmpI x y = -1 ∨ cmpI x y = 0 ∨ cmpI x y = 1 := by unfold cmpI; split <;> (try split) <;> simp
theorem val_ia {k : Nat} (hk : k < 3) : iaddrV (.arr 3 1) (.ptr 0 0) k = some (.ptr 0 k) := by
  show bsel (Nat.blt k 3) (some (AV.ptr 0 (0 + k * 1))) none = _
  rw [show Nat.blt k 3 = true from Nat.ble_eq_true_of_le hk, bsel_true]
  simp
theorem val_ld {S : St} (hL : Laid S) {k : Nat} (hk : k < 3) : qLdV (.ptr 0 k) false 1 S.h = some (.int .i64 ((k : Int) - 1)) := by
  simp only [qLdV, loadV, bsel_false, load1, cellsAt, hL.2.1, osel_some, cellsOfB, nth_eq, tabV]
  rcases (by omega : k = 0 ∨ k = 1 ∨ k = 2) with rfl | rfl | rfl <;> rfl

theorem rcmp_spec {S : St} {a b : AV} {p q : Rat} (H : Has fns) (hL : Laid S) (ha : RatIs S a p) (hb : RatIs S b q) (hp : InBound p) (hq : InBound q) : wpf fns (.fn 18 [] []) [a, b] S fun r S' => r = .tup [.int .i64 (cmpR p q), .int .i64 0] ∧ Same S S' := by
  obtain ⟨nv, dv, rfl, n1, n2⟩ := id ha
  obtain ⟨mv, ev, rfl, m1, m2⟩ := id hb
  refine wpf_fn H.f18 (by simp) ?_
  simp only [↓stU, stD, Nat.reduceEqDiff, ↓reduceIte, reduceCtorEq]
  refine wpc_seq (wpc_reg ?_)
  refine wpo_box (by simp only [↓stU, stD, Nat.reduceEqDiff, ↓reduceIte, reduceCtorEq, cells_agg]; rfl) ?_
  intro S1 hS1 hn1 hc1
  refine wpo_box (by simp only [↓stU, stD, Nat.reduceEqDiff, ↓reduceIte, reduceCtorEq, cells_agg]; rfl) ?_
  intro S2 hS2 hn2 hc2
  simp only [↓stU, stD, Nat.reduceEqDiff, ↓reduceIte, reduceCtorEq]
  have g1 : S2.h.get S.nx = some (.cells [.bool (decide (p.num < 0)), nv, dv] false 0) := by rw [hS2.2 _ (by omega)]; exact hc1
  have hS := hS1.trans hS2
  refine wpc_seq (wpc_seq (wpc_reg ?_))
  simp only [↓stU, stD, Nat.reduceEqDiff, ↓reduceIte, reduceCtorEq, ld3 g1, ld3 hc2]
  refine wpo_call ?_
  simp only [↓stU, stD, Nat.reduceEqDiff, ↓reduceIte, reduceCtorEq]
  refine wpf_mono (both_ok H (hL.same hS) (ha.same hS) (hb.same hS) hp hq) ?_
  rintro _ S3 ⟨rfl, hS3⟩
  try simp only [↓stU, stD, Nat.reduceEqDiff, ↓reduceIte, reduceCtorEq]
  refine wpc_seq (wpc_reg ?_)
  simp only [↓stU, stD, Nat.reduceEqDiff, ↓reduceIte, reduceCtorEq]
  refine wpc_if (t := false) (by simp only [↓stU, stD, Nat.reduceEqDiff, ↓reduceIte, reduceCtorEq]; rfl) (fun h => by cases h) (fun _ => wpc_skip ?_)
  simp only [↓stU, stD, Nat.reduceEqDiff, ↓reduceIte, reduceCtorEq]
  have k1 : S3.h.get S.nx = some (.cells [.bool (decide (p.num < 0)), nv, dv] false 0) := by rw [hS3.2 _ (by omega)]; exact g1
  have k2 : S3.h.get S1.nx = some (.cells [.bool (decide (q.num < 0)), mv, ev] false 0) := by rw [hS3.2 _ (by omega)]; exact hc2
  have l3 := hS3.1
  have t1 : S.nx < S3.nx := by omega
  have t2 : S1.nx < S3.nx := by omega
  have e3 := hS.trans hS3
  refine wpc_seq (wpc_mono (Q := fun o A' S' => o = .normal ∧ A'.inr = false ∧ Same S3 S' ∧ tmpV 2 A'.F = .ptr S.nx 0 ∧ tmpV 3 A'.F = .ptr S1.nx 0 ∧ tmpV 7 A'.F = .int .i64 (sgn p) ∧ tmpV 8 A'.F = .int .i64 (sgn q)) ?_ ?_)
  · refine wpc_drd1 (fun _ => False) ?_
    intro S4 s4
    simp only [↓stU, stD, Nat.reduceEqDiff, ↓reduceIte, reduceCtorEq, ↓stV, stW, Nat.reduceAdd, ld3 k1, ld3 k2, t1, t2, not_false_eq_true, self_rat ha, self_rat hb]
    refine runD_call0 rfl ?_
    try simp only [↓stU, stD, Nat.reduceEqDiff, ↓reduceIte, reduceCtorEq, ↓stV, stW, Nat.reduceAdd]
    refine wpf_mono (signOf_spec H (ha.same (e3.trans s4))) ?_
    rintro _ S5 ⟨rfl, s5⟩
    refine ⟨s5, ?_⟩
    simp only [↓stU, stD, Nat.reduceEqDiff, ↓reduceIte, reduceCtorEq, ↓stV, stW, Nat.reduceAdd, ld3 k1, ld3 k2, t1, t2, not_false_eq_true, self_rat ha, self_rat hb]
    refine runD_call0 rfl ?_
    try simp only [↓stU, stD, Nat.reduceEqDiff, ↓reduceIte, reduceCtorEq, ↓stV, stW, Nat.reduceAdd]
    refine wpf_mono (signOf_spec H (hb.same (e3.trans (s4.trans s5)))) ?_
    rintro _ S6 ⟨rfl, s6⟩
    refine ⟨s6, ?_⟩
    simp only [↓stU, stD, Nat.reduceEqDiff, ↓reduceIte, reduceCtorEq, ↓stV, stW, Nat.reduceAdd]
    exact s4.trans (s5.trans s6)
  rintro o ⟨F, inr⟩ S6 ⟨rfl, q0, s6, p2, p3, p7, p8⟩
  simp only at q0 p2 p3 p7 p8
  subst q0
  try simp only [↓stU, stD, Nat.reduceEqDiff, ↓reduceIte, reduceCtorEq]
  have e6 := e3.trans s6
  have hL6 := hL.same e6
  have z0 := val_ld hL6 (k := 0) (by decide)
  have z2 := val_ld hL6 (k := 2) (by decide)
  have i0 := val_ia (k := 0) (by decide)
  have i2 := val_ia (k := 2) (by decide)
  have c0 : natOf (.int .i64 0) = some 0 := rfl
  have c2 : natOf (.int .i64 2) = some 2 := rfl
  refine wpc_seq (wpc_block (wpc_seq (wpc_reg ?_)))
  simp only [↓stU, stD, Nat.reduceEqDiff, ↓reduceIte, reduceCtorEq, p7, p8]
  by_cases h1 : sgn p < sgn q
  · refine wpc_if (t := true) (by simp only [↓stU, stD, Nat.reduceEqDiff, ↓reduceIte, reduceCtorEq, decide_eq_true h1]) (fun _ => ?_) (fun h => by cases h)
    refine wpc_seq (wpc_reg ?_)
    simp only [↓stU, stD, Nat.reduceEqDiff, ↓reduceIte, reduceCtorEq, c0, i0, z0]
    refine wpc_ret ?_
    simp only [↓stU, stD, Nat.reduceEqDiff, ↓reduceIte, reduceCtorEq]
    rw [cmpR_lt h1]
    exact ⟨rfl, e6⟩
  refine wpc_if (t := false) (by simp only [↓stU, stD, Nat.reduceEqDiff, ↓reduceIte, reduceCtorEq, decide_eq_false h1]) (fun h => by cases h) (fun _ => ?_)
  refine wpc_seq (wpc_reg ?_)
  simp only [↓stU, stD, Nat.reduceEqDiff, ↓reduceIte, reduceCtorEq, p7, p8]
  by_cases h2 : sgn q < sgn p
  · refine wpc_if (t := true) (by simp only [↓stU, stD, Nat.reduceEqDiff, ↓reduceIte, reduceCtorEq, decide_eq_true h2]) (fun _ => ?_) (fun h => by cases h)
    refine wpc_seq (wpc_reg ?_)
    simp only [↓stU, stD, Nat.reduceEqDiff, ↓reduceIte, reduceCtorEq, c2, i2, z2]
    refine wpc_ret ?_
    simp only [↓stU, stD, Nat.reduceEqDiff, ↓reduceIte, reduceCtorEq]
    rw [cmpR_gt h2]
    exact ⟨rfl, e6⟩
  refine wpc_if (t := false) (by simp only [↓stU, stD, Nat.reduceEqDiff, ↓reduceIte, reduceCtorEq, decide_eq_false h2]) (fun h => by cases h) (fun _ => wpc_skip ?_)
  simp only [↓stU, stD, Nat.reduceEqDiff, ↓reduceIte, reduceCtorEq]
  have h3 : sgn p = sgn q := by omega
  rw [cmpR_eq h3]
  obtain ⟨kk, hkk, hk3⟩ : ∃ kk : Nat, sgn p = kk ∧ kk < 3 := by
    rcases sgn_cases p with h | h | h
    · exact ⟨0, h, by decide⟩
    · exact ⟨1, h, by decide⟩
    · exact ⟨2, h, by decide⟩
  rw [hkk] at p7 ⊢
  have zk := val_ld hL6 hk3
  have ik := val_ia hk3
  have hk1 : S6.h.get S.nx = some (.cells [.bool (decide (p.num < 0)), nv, dv] false 0) := by rw [s6.2 _ (by omega)]; exact k1
  have hk2 : S6.h.get S1.nx = some (.cells [.bool (decide (q.num < 0)), mv, ev] false 0) := by rw [s6.2 _ (by omega)]; exact k2
  have l6 := s6.1
  have u1 : S.nx < S6.nx := by omega
  have u2 : S1.nx < S6.nx := by omega
  have u0 : 0 < S6.nx := by have := hL6.2.2; omega
  refine wpc_seq (wpc_mono (Q := fun o A' S' => o = .normal ∧ Same S6 S' ∧ tmpV 4 A'.F = .int .i64 (((kk : Int) - 1) * cmpI (p.num.natAbs * q.den) (q.num.natAbs * p.den)) ∧ tmpV 5 A'.F = .int .i64 0) ?_ ?_)
  · refine wpc_drd1 (fun _ => False) ?_
    intro S7 s7
    have e7 := e6.trans s7
    simp only [↓stU, stD, Nat.reduceEqDiff, ↓reduceIte, reduceCtorEq, ↓stV, stW, Nat.reduceAdd, p2, p3, p7, evQ_faddr, isLoad_faddr, faddr_ptr, ik, zk, ld3_1 hk1, ld3_1 hk2, ld3_2 hk1, ld3_2 hk2, u0, u1, u2, not_false_eq_true, nat_self n1, nat_self n2, nat_self m1, nat_self m2]
    refine runD_call0 rfl ?_
    try simp only [↓stU, stD, Nat.reduceEqDiff, ↓reduceIte, reduceCtorEq, ↓stV, stW, Nat.reduceAdd]
    refine wpf_mono (mul_spec H.f103 H.f64 (n1.same e7) (m2.same e7) hp.half.fits.1 hq.half.fits.2) ?_
    rintro x S8 ⟨hx, s8⟩
    refine ⟨s8, ?_⟩
    simp only [↓stU, stD, Nat.reduceEqDiff, ↓reduceIte, reduceCtorEq, ↓stV, stW, Nat.reduceAdd, p2, p3, p7, evQ_faddr, isLoad_faddr, faddr_ptr, ld3_1 hk1, ld3_1 hk2, ld3_2 hk1, ld3_2 hk2, u0, u1, u2, not_false_eq_true, nat_self n1, nat_self n2, nat_self m1, nat_self m2]
    refine runD_call0 rfl ?_
    try simp only [↓stU, stD, Nat.reduceEqDiff, ↓reduceIte, reduceCtorEq, ↓stV, stW, Nat.reduceAdd]
    have e8 := e7.trans s8
    refine wpf_mono (mul_spec H.f103 H.f64 (m1.same e8) (n2.same e8) hq.half.fits.1 hp.half.fits.2) ?_
    rintro y S9 ⟨hy, s9⟩
    refine ⟨s9, ?_⟩
    try simp only [↓stU, stD, Nat.reduceEqDiff, ↓reduceIte, reduceCtorEq, ↓stV, stW, Nat.reduceAdd]
    refine runD_call0 rfl ?_
    try simp only [↓stU, stD, Nat.reduceEqDiff, ↓reduceIte, reduceCtorEq, ↓stV, stW, Nat.reduceAdd]
    have hfit : Fits (p.num.natAbs * q.den) := Fits.of (mul_lt_pow hp.half.1 hq.half.2) (by decide)
    refine wpf_mono (cmp_spec H.f63 (hx.same s9) hy hfit) ?_
    rintro _ S10 ⟨rfl, s10⟩
    refine ⟨s10, ?_⟩
    have hmul : ((kk : Int) - 1) * cmpI (p.num.natAbs * q.den) (q.num.natAbs * p.den) = -1 ∨ ((kk : Int) - 1) * cmpI (p.num.natAbs * q.den) (q.num.natAbs * p.den) = 0 ∨ ((kk : Int) - 1) * cmpI (p.num.natAbs * q.den) (q.num.natAbs * p.den) = 1 := by
      rcases cmpI_cases (p.num.natAbs * q.den) (q.num.natAbs * p.den) with h | h | h <;> rw [h] <;> omega
    rw [bin_muli _ (by omega) (by omega)]
    simp only [↓stU, stD, Nat.reduceEqDiff, ↓reduceIte, reduceCtorEq, ↓stV, stW, Nat.reduceAdd]
    exact s7.trans (s8.trans (s9.trans s10))
  rintro o ⟨F, inr⟩ S10 ⟨rfl, s10, p4, p5⟩
  simp only at p4 p5
  try simp only [↓stU, stD, Nat.reduceEqDiff, ↓reduceIte, reduceCtorEq]
  refine wpc_ret ?_
  simp only [↓stU, stD, Nat.reduceEqDiff, ↓reduceIte, reduceCtorEq, p4, p5]
  exact e6.trans s10
end Go.Ev.Gl

namespace Go.Ev.Gl
variable {fns : T AFn}

/-! ## The whole numbers below and above -/
def dn (neg : Bool) (x y : Nat) : Nat := if neg = true ∧ x % y ≠ 0 then x / y + 1 else x / y
def flr (q : Rat) : Int := q.num / q.den
def cel (q : Rat) : Int := -(-q.num / q.den)

theorem dn_down {x y : Nat} (hy : 0 < y) : -(dn true x y : Int) = (-(x : Int)) / y := by
  have h := Nat.div_add_mod x y
  have hr := Nat.mod_lt x hy
  have h2 : ((y : Int) * (x / y : Nat)) + ((x % y : Nat) : Int) = x := by
    have : (((y * (x / y) + x % y : Nat)) : Int) = (x : Int) := by rw [h]
    rw [Int.natCast_add, Int.natCast_mul] at this
    exact this
  unfold dn
  by_cases h0 : x % y = 0
  · rw [if_neg (fun h => h.2 h0)]
    generalize x / y = d at *
    exact ((Int.ediv_emod_unique (a := -(x : Int)) (b := y) (r := 0) (q := -(d : Int)) (by omega)).2 ⟨by rw [Int.mul_neg]; omega, by omega, by omega⟩).1.symm
  · rw [if_pos ⟨rfl, h0⟩]
    generalize x / y = d at *
    refine ((Int.ediv_emod_unique (a := -(x : Int)) (b := y) (r := (y : Int) - (x % y : Nat)) (q := -((d + 1 : Nat) : Int)) (by omega)).2 ⟨?_, by omega, by omega⟩).1.symm
    rw [Int.mul_neg, Int.natCast_add, Int.mul_add]
    omega
theorem dn_up (x y : Nat) : dn false x y = x / y := by unfold dn; rw [if_neg (fun h => by cases h.1)]

theorem floor_sg (q : Rat) : sg (decide (q.num < 0)) (dn (decide (q.num < 0)) q.num.natAbs q.den) = flr q := by
  have hd : 0 < q.den := by have := q.den_nz; omega
  unfold flr
  by_cases h : q.num < 0
  · rw [decide_eq_true h]
    show -(dn true q.num.natAbs q.den : Int) = _
    rw [dn_down hd, show -((q.num.natAbs : Nat) : Int) = q.num by omega]
  · rw [decide_eq_false h, dn_up]
    show ((q.num.natAbs / q.den : Nat) : Int) = _
    rw [Int.natCast_ediv, show ((q.num.natAbs : Nat) : Int) = q.num by omega]
theorem ceil_sg (q : Rat) : sg (decide (q.num < 0)) (dn (!decide (q.num < 0)) q.num.natAbs q.den) = cel q := by
  have hd : 0 < q.den := by have := q.den_nz; omega
  unfold cel
  by_cases h : q.num < 0
  · rw [decide_eq_true h]
    show -(dn false q.num.natAbs q.den : Int) = _
    rw [dn_up, Int.natCast_ediv, show ((q.num.natAbs : Nat) : Int) = -q.num by omega]
  · rw [decide_eq_false h]
    show (dn true q.num.natAbs q.den : Int) = _
    have := dn_down (x := q.num.natAbs) hd
    rw [show ((q.num.natAbs : Nat) : Int) = q.num by omega] at this
    omega

theorem dn_le (neg : Bool) (x y : Nat) : dn neg x y ≤ x + 1 := by
  have := Nat.div_le_self x y
  unfold dn
  split <;> omega
theorem dn_lt {neg : Bool} {x y k : Nat} (hx : x < B ^ k) : dn neg x y < B ^ (k + 1) := by
  have h1 := dn_le neg x y
  have h2 : B ^ k < B ^ (k + 1) := Nat.pow_lt_pow_right (by decide) (by omega)
  omega
theorem dn_fit {neg : Bool} {x y : Nat} (hx : x < B ^ 1024) : Fits (dn neg x y) := Fits.of (dn_lt hx) (by decide)

theorem down_spec {S : St} {neg : Bool} {a b : AV} {x y : Nat} (H : Has fns) (ha : NatIs S a x) (hb : NatIs S b y) (hx : Fits x) (hy0 : 0 < y) :
    wpf fns (.fn 79 [] []) [.bool neg, a, b] S fun r S' => ∃ v, r = .tup [.bool neg, v] ∧ NatIs S' v (dn neg x y) ∧ Same S S' := by
  refine wpf_fn H.f79 (by simp) ?_
  simp only [↓stU, stD, Nat.reduceEqDiff, ↓reduceIte, reduceCtorEq]
  refine wpc_seq (wpc_reg ?_)
  simp only [↓stU, stD, Nat.reduceEqDiff, ↓reduceIte, reduceCtorEq]
  refine wpc_seq (wpc_reg ?_)
  simp only [↓stU, stD, Nat.reduceEqDiff, ↓reduceIte, reduceCtorEq]
  refine wpo_call ?_
  simp only [↓stU, stD, Nat.reduceEqDiff, ↓reduceIte, reduceCtorEq]
  refine wpf_mono (div_spec H ha hb hx hy0) ?_
  rintro _ S1 ⟨qv, rv, rfl, hq, hr, hS1⟩
  simp only [↓stU, stD, Nat.reduceEqDiff, ↓reduceIte, reduceCtorEq, ex0, ex1]
  obtain ⟨lr, hr1, hr2, hr3⟩ := id hr
  have hlen : 0 < lr.length ↔ x % y ≠ 0 := by
    rw [← hr3]
    constructor
    · intro h h0
      have := norm_low hr2 (by rintro rfl; simp at h)
      have := Nat.pow_pos (n := lr.length - 1) B_pos
      omega
    · intro h
      rcases Nat.eq_zero_or_pos lr.length with h0 | h0
      · exact absurd (by rw [List.eq_nil_of_length_eq_zero h0]; rfl) h
      · exact h0
  refine wpc_seq (wpc_seq (wpc_mono (Q := fun o A' S' => o = .normal ∧ S' = S1 ∧ A'.inr = false ∧ tmpV 0 A'.F = .bool neg ∧ tmpV 8 A'.F = qv ∧ tmpV 21 A'.F = .bool (decide (neg = true ∧ x % y ≠ 0))) ?_ ?_))
  · refine wpc_reg ?_
    cases neg with
    | true =>
      by_cases h0 : x % y = 0
      · have : ¬ 0 < lr.length := fun h => hlen.1 h h0
        have d1 : decide ((0 : Int) < ((lr.length : Nat) : Int)) = false := decide_eq_false (by omega)
        simp only [↓stU, stD, Nat.reduceEqDiff, ↓reduceIte, reduceCtorEq, hr1.len, d1]
        simp [h0]
      · have := hlen.2 h0
        have d1 : decide ((0 : Int) < ((lr.length : Nat) : Int)) = true := decide_eq_true (by omega)
        simp only [↓stU, stD, Nat.reduceEqDiff, ↓reduceIte, reduceCtorEq, hr1.len, d1]
        simp [h0]
    | false =>
      simp only [↓stU, stD, Nat.reduceEqDiff, ↓reduceIte, reduceCtorEq]
      simp
  rintro o ⟨F, inr⟩ T ⟨rfl, hT, q0, p0, p8, p21⟩
  simp only at q0 p0 p8 p21
  subst q0
  rw [hT]
  try simp only [↓stU, stD, Nat.reduceEqDiff, ↓reduceIte, reduceCtorEq]
  by_cases hc : neg = true ∧ x % y ≠ 0
  · refine wpc_if (t := true) (by simp only [↓stU, stD, Nat.reduceEqDiff, ↓reduceIte, reduceCtorEq, p21, decide_eq_true hc]) (fun _ => ?_) (fun h => by cases h)
    refine wpc_reg ?_
    simp only [↓stU, stD, Nat.reduceEqDiff, ↓reduceIte, reduceCtorEq, p8]
    refine wpo_call ?_
    simp only [↓stU, stD, Nat.reduceEqDiff, ↓reduceIte, reduceCtorEq]
    refine wpf_mono (one_spec H.f66) ?_
    rintro ov S2 ⟨ho, hS2⟩
    try simp only [↓stU, stD, Nat.reduceEqDiff, ↓reduceIte, reduceCtorEq]
    refine wpo_call ?_
    simp only [↓stU, stD, Nat.reduceEqDiff, ↓reduceIte, reduceCtorEq]
    refine wpf_mono (add_spec H.f99 (hq.same hS2) ho (hx.mono (Nat.div_le_self ..)) (Fits.of (i := 1) (by decide) (by decide))) ?_
    rintro sv S3 ⟨hs, hS3⟩
    try simp only [↓stU, stD, Nat.reduceEqDiff, ↓reduceIte, reduceCtorEq]
    refine wpc_seq (wpc_reg ?_)
    simp only [↓stU, stD, Nat.reduceEqDiff, ↓reduceIte, reduceCtorEq, p0]
    refine wpc_ret ?_
    simp only [↓stU, stD, Nat.reduceEqDiff, ↓reduceIte, reduceCtorEq]
    refine ⟨_, rfl, ?_, hS1.trans (hS2.trans hS3)⟩
    unfold dn
    rw [if_pos hc]
    exact hs
  refine wpc_if (t := false) (by simp only [↓stU, stD, Nat.reduceEqDiff, ↓reduceIte, reduceCtorEq, p21, decide_eq_false hc]) (fun h => by cases h) (fun _ => wpc_skip ?_)
  simp only [↓stU, stD, Nat.reduceEqDiff, ↓reduceIte, reduceCtorEq]
  refine wpc_seq (wpc_reg ?_)
  simp only [↓stU, stD, Nat.reduceEqDiff, ↓reduceIte, reduceCtorEq, p0, p8]
  refine wpc_ret ?_
  simp only [↓stU, stD, Nat.reduceEqDiff, ↓reduceIte, reduceCtorEq]
  refine ⟨_, rfl, ?_, hS1⟩
  unfold dn
  rw [if_neg hc]
  exact hq

theorem rfloor_spec {S : St} {a : AV} {p : Rat} (H : Has fns) (hL : Laid S) (ha : RatIs S a p) (hp : InBound p) (hin : InBound (flr p : Rat)) : wpf fns (.fn 36 [] []) [a] S fun r S' => ∃ v, r = .tup [v, .int .i64 0] ∧ RatIs S' v (flr p : Rat) ∧ Same S S' := by
  have hd : 0 < p.den := by have := p.den_nz; omega
  obtain ⟨nv, dv, rfl, n1, n2⟩ := id ha
  refine wpf_fn H.f36 (by simp) ?_
  simp only [↓stU, stD, Nat.reduceEqDiff, ↓reduceIte, reduceCtorEq]
  refine wpc_seq (wpc_reg ?_)
  refine wpo_box (by simp only [↓stU, stD, Nat.reduceEqDiff, ↓reduceIte, reduceCtorEq, cells_agg]; rfl) ?_
  intro S1 hS1 hn1 hc1
  refine wpo_alloc ?_
  intro S2 hS2 hn2 hc2
  simp only [↓stU, stD, Nat.reduceEqDiff, ↓reduceIte, reduceCtorEq]
  have g1 : S2.h.get S.nx = some (.cells [.bool (decide (p.num < 0)), nv, dv] false 0) := by rw [hS2.2 _ (by omega)]; exact hc1
  have hS := hS1.trans hS2
  refine wpc_seq (wpc_seq (wpc_reg ?_))
  simp only [↓stU, stD, Nat.reduceEqDiff, ↓reduceIte, reduceCtorEq, ld3 g1]
  refine wpo_call ?_
  simp only [↓stU, stD, Nat.reduceEqDiff, ↓reduceIte, reduceCtorEq]
  refine wpf_mono (check_ok H (hL.same hS) (ha.same hS) hp) ?_
  rintro _ S3 ⟨rfl, hS3⟩
  try simp only [↓stU, stD, Nat.reduceEqDiff, ↓reduceIte, reduceCtorEq]
  refine wpc_seq (wpc_reg ?_)
  simp only [↓stU, stD, Nat.reduceEqDiff, ↓reduceIte, reduceCtorEq]
  refine wpc_if (t := false) (by simp only [↓stU, stD, Nat.reduceEqDiff, ↓reduceIte, reduceCtorEq]; rfl) (fun h => by cases h) (fun _ => wpc_skip ?_)
  simp only [↓stU, stD, Nat.reduceEqDiff, ↓reduceIte, reduceCtorEq]
  have k1 : S3.h.get S.nx = some (.cells [.bool (decide (p.num < 0)), nv, dv] false 0) := by rw [hS3.2 _ (by omega)]; exact g1
  have k2 : S3.h.get S1.nx = some (.cells [.bool false, .nilsl, .nilsl] false 0) := by rw [hS3.2 _ (by omega)]; exact hc2
  have l3 := hS3.1
  have e3 := hS.trans hS3
  refine wpc_seq (wpc_reg ?_)
  simp only [↓stU, stD, Nat.reduceEqDiff, ↓reduceIte, reduceCtorEq, evQ_faddr, faddr_ptr, ld3_0 k1, ld3_1 k1, ld3_2 k1]
  refine wpo_call ?_
  simp only [↓stU, stD, Nat.reduceEqDiff, ↓reduceIte, reduceCtorEq]
  refine wpf_mono (down_spec H (n1.same e3) (n2.same e3) hp.half.fits.1 hd) ?_
  rintro _ S4 ⟨v, rfl, hv, hS4⟩
  simp only [↓stU, stD, Nat.reduceEqDiff, ↓reduceIte, reduceCtorEq, ex0, ex1]
  refine wpo_call ?_
  simp only [↓stU, stD, Nat.reduceEqDiff, ↓reduceIte, reduceCtorEq]
  refine wpf_mono (whole_spec H hv (dn_fit hp.1)) ?_
  rintro w S5 ⟨hw, hS5⟩
  rw [floor_sg] at hw
  obtain ⟨w0, w1, w2, rfl⟩ := hw.cells
  try simp only [↓stU, stD, Nat.reduceEqDiff, ↓reduceIte, reduceCtorEq]
  refine wpo_call ?_
  simp only [↓stU, stD, Nat.reduceEqDiff, ↓reduceIte, reduceCtorEq]
  refine wpf_mono (bounded_spec H hw hin) ?_
  rintro _ S6 ⟨rfl, hw6, hS6⟩
  simp only [↓stU, stD, Nat.reduceEqDiff, ↓reduceIte, reduceCtorEq, ex0, ex1]
  have s36 := hS4.trans (hS5.trans hS6)
  have k6 : S6.h.get S1.nx = some (.cells [.bool false, .nilsl, .nilsl] false 0) := by rw [s36.2 _ (by omega)]; exact k2
  refine wpo_st (b := S1.nx) (by simp only [↓stU, stD, Nat.reduceEqDiff, ↓reduceIte, reduceCtorEq]) (by simp only [↓stU, stD, Nat.reduceEqDiff, ↓reduceIte, reduceCtorEq, cells_agg]; rfl) k6 rfl rfl ?_
  intro S7 hS7 hn7 hb7
  simp only [↓stU, stD, Nat.reduceEqDiff, ↓reduceIte, reduceCtorEq]
  refine wpc_ret ?_
  simp only [↓stU, stD, Nat.reduceEqDiff, ↓reduceIte, reduceCtorEq, results_cell, ld3 hb7]
  exact ⟨_, rfl, hw6.st k6 rfl hS7 hb7, hS7.same (e3.trans s36) (by omega)⟩

theorem rceil_spec {S : St} {a : AV} {p : Rat} (H : Has fns) (hL : Laid S) (ha : RatIs S a p) (hp : InBound p) (hin : InBound (cel p : Rat)) : wpf fns (.fn 37 [] []) [a] S fun r S' => ∃ v, r = .tup [v, .int .i64 0] ∧ RatIs S' v (cel p : Rat) ∧ Same S S' := by
  have hd : 0 < p.den := by have := p.den_nz; omega
  obtain ⟨nv, dv, rfl, n1, n2⟩ := id ha
  refine wpf_fn H.f37 (by simp) ?_
  simp only [↓stU, stD, Nat.reduceEqDiff, ↓reduceIte, reduceCtorEq]
  refine wpc_seq (wpc_reg ?_)
  refine wpo_box (by simp only [↓stU, stD, Nat.reduceEqDiff, ↓reduceIte, reduceCtorEq, cells_agg]; rfl) ?_
  intro S1 hS1 hn1 hc1
  refine wpo_alloc ?_
  intro S2 hS2 hn2 hc2
  simp only [↓stU, stD, Nat.reduceEqDiff, ↓reduceIte, reduceCtorEq]
  have g1 : S2.h.get S.nx = some (.cells [.bool (decide (p.num < 0)), nv, dv] false 0) := by rw [hS2.2 _ (by omega)]; exact hc1
  have hS := hS1.trans hS2
  refine wpc_seq (wpc_seq (wpc_reg ?_))
  simp only [↓stU, stD, Nat.reduceEqDiff, ↓reduceIte, reduceCtorEq, ld3 g1]
  refine wpo_call ?_
  simp only [↓stU, stD, Nat.reduceEqDiff, ↓reduceIte, reduceCtorEq]
  refine wpf_mono (check_ok H (hL.same hS) (ha.same hS) hp) ?_
  rintro _ S3 ⟨rfl, hS3⟩
  try simp only [↓stU, stD, Nat.reduceEqDiff, ↓reduceIte, reduceCtorEq]
  refine wpc_seq (wpc_reg ?_)
  simp only [↓stU, stD, Nat.reduceEqDiff, ↓reduceIte, reduceCtorEq]
  refine wpc_if (t := false) (by simp only [↓stU, stD, Nat.reduceEqDiff, ↓reduceIte, reduceCtorEq]; rfl) (fun h => by cases h) (fun _ => wpc_skip ?_)
  simp only [↓stU, stD, Nat.reduceEqDiff, ↓reduceIte, reduceCtorEq]
  have k1 : S3.h.get S.nx = some (.cells [.bool (decide (p.num < 0)), nv, dv] false 0) := by rw [hS3.2 _ (by omega)]; exact g1
  have k2 : S3.h.get S1.nx = some (.cells [.bool false, .nilsl, .nilsl] false 0) := by rw [hS3.2 _ (by omega)]; exact hc2
  have l3 := hS3.1
  have e3 := hS.trans hS3
  refine wpc_seq (wpc_reg ?_)
  simp only [↓stU, stD, Nat.reduceEqDiff, ↓reduceIte, reduceCtorEq, evQ_faddr, faddr_ptr, ld3_0 k1, ld3_1 k1, ld3_2 k1, un_not]
  refine wpo_call ?_
  simp only [↓stU, stD, Nat.reduceEqDiff, ↓reduceIte, reduceCtorEq]
  refine wpf_mono (down_spec H (n1.same e3) (n2.same e3) hp.half.fits.1 hd) ?_
  rintro _ S4 ⟨v, rfl, hv, hS4⟩
  simp only [↓stU, stD, Nat.reduceEqDiff, ↓reduceIte, reduceCtorEq, ex0, ex1]
  refine wpc_seq (wpc_reg ?_)
  simp only [↓stU, stD, Nat.reduceEqDiff, ↓reduceIte, reduceCtorEq, un_not, Bool.not_not]
  refine wpo_call ?_
  simp only [↓stU, stD, Nat.reduceEqDiff, ↓reduceIte, reduceCtorEq]
  refine wpf_mono (whole_spec H hv (dn_fit hp.1)) ?_
  rintro w S5 ⟨hw, hS5⟩
  rw [ceil_sg] at hw
  obtain ⟨w0, w1, w2, rfl⟩ := hw.cells
  try simp only [↓stU, stD, Nat.reduceEqDiff, ↓reduceIte, reduceCtorEq]
  refine wpo_call ?_
  simp only [↓stU, stD, Nat.reduceEqDiff, ↓reduceIte, reduceCtorEq]
  refine wpf_mono (bounded_spec H hw hin) ?_
  rintro _ S6 ⟨rfl, hw6, hS6⟩
  simp only [↓stU, stD, Nat.reduceEqDiff, ↓reduceIte, reduceCtorEq, ex0, ex1]
  have s36 := hS4.trans (hS5.trans hS6)
  have k6 : S6.h.get S1.nx = some (.cells [.bool false, .nilsl, .nilsl] false 0) := by rw [s36.2 _ (by omega)]; exact k2
  refine wpo_st (b := S1.nx) (by simp only [↓stU, stD, Nat.reduceEqDiff, ↓reduceIte, reduceCtorEq]) (by simp only [↓stU, stD, Nat.reduceEqDiff, ↓reduceIte, reduceCtorEq, cells_agg]; rfl) k6 rfl rfl ?_
  intro S7 hS7 hn7 hb7
  simp only [↓stU, stD, Nat.reduceEqDiff, ↓reduceIte, reduceCtorEq]
  refine wpc_ret ?_
  simp only [↓stU, stD, Nat.reduceEqDiff, ↓reduceIte, reduceCtorEq, results_cell, ld3 hb7]
  exact ⟨_, rfl, hw6.st k6 rfl hS7 hb7, hS7.same (e3.trans s36) (by omega)⟩
end Go.Ev.Gl

namespace Go.Ev.Gl
variable {fns : T AFn}

/-! ## Plain facts on comparing -/
theorem cmpR_cases (p q : Rat) : cmpR p q = -1 ∨ cmpR p q = 0 ∨ cmpR p q = 1 := by unfold cmpR; split <;> (try split) <;> simp
theorem cmpR_add (p q r : Rat) : cmpR (p + r) (q + r) = cmpR p q := by
  have h1 : p + r < q + r ↔ p < q := by grind
  have h2 : p + r = q + r ↔ p = q := by grind
  unfold cmpR
  simp only [h1, h2]
theorem cmpR_eq0 {p q : Rat} : cmpR p q = 0 ↔ p = q := by
  unfold cmpR
  split
  · rename_i h; constructor
    · intro h'; omega
    · rintro rfl; exact absurd h (Rat.lt_irrefl)
  · split <;> simp_all
theorem cmpR_mul (p q r : Rat) : cmpR (p * r) (q * r) = cmpR p q * cmpR r 0 := by
  by_cases hr : r < 0
  · have e : cmpR r 0 = -1 := by unfold cmpR; rw [if_pos hr]
    have h1 : p * r < q * r ↔ q < p := by
      constructor
      · intro h
        apply Classical.byContradiction
        intro h'
        have h3 : p ≤ q := Rat.not_lt.1 h'
        have : 0 ≤ (q - p) * (-r) := Rat.mul_nonneg (by grind) (by grind)
        grind
      · intro h
        have : 0 < (p - q) * (-r) := Rat.mul_pos (by grind) (by grind)
        grind
    have h2 : p * r = q * r ↔ p = q := by
      constructor
      · intro h; have : r ≠ 0 := by grind
        grind
      · rintro rfl; rfl
    rw [e, show cmpR p q * -1 = cmpR q p by rw [cmpR_swap p q]; omega]
    unfold cmpR
    simp only [h1, h2, eq_comm]
  · by_cases h0 : r = 0
    · subst h0
      rw [Rat.mul_zero, Rat.mul_zero]
      have : cmpR (0 : Rat) 0 = 0 := cmpR_eq0.2 rfl
      rw [this, Int.mul_zero]
    · have e : cmpR r 0 = 1 := by unfold cmpR; rw [if_neg hr, if_neg h0]
      have hr' : 0 < r := by grind
      have h1 : p * r < q * r ↔ p < q := by
        constructor
        · intro h
          apply Classical.byContradiction
          intro h'
          have h3 : q ≤ p := Rat.not_lt.1 h'
          have : 0 ≤ (p - q) * r := Rat.mul_nonneg (by grind) (by grind)
          grind
        · intro h
          have : 0 < (q - p) * r := Rat.mul_pos (by grind) hr'
          grind
      have h2 : p * r = q * r ↔ p = q := by
        constructor
        · intro h; grind
        · rintro rfl; rfl
      rw [e, Int.mul_one]
      unfold cmpR
      simp only [h1, h2]

theorem flr_lt (p : Rat) : (flr p : Int) * p.den ≤ p.num ∧ p.num < (flr p + 1) * p.den := by
  have hd := den_pos p
  unfold flr
  exact ⟨Int.ediv_mul_le _ (by omega), Int.lt_ediv_add_one_mul_self _ hd⟩
theorem num_cast (z : Int) : ((z : Rat)).num = z := rfl
theorem den_cast (z : Int) : ((z : Rat)).den = 1 := rfl
theorem cast_lt (z : Int) (p : Rat) : (z : Rat) < p ↔ z * p.den < p.num := by rw [num_lt, num_cast, den_cast]; simp
theorem lt_cast (z : Int) (p : Rat) : p < (z : Rat) ↔ p.num < z * p.den := by rw [num_lt, num_cast, den_cast]; simp
theorem cast_eq (z : Int) (p : Rat) : (z : Rat) = p ↔ z * p.den = p.num := by rw [num_eq, num_cast, den_cast]; simp

theorem whole_case (p : Rat) : ((flr p : Rat) = p ∧ (cel p : Rat) = p) ∨ (cmpR (flr p : Rat) p = -1 ∧ cmpR p (cel p : Rat) = -1 ∧ (cel p : Rat) = (flr p : Rat) + 1) := by
  have hd := den_pos p
  obtain ⟨h1, h2⟩ := flr_lt p
  by_cases h : flr p * p.den = p.num
  · left
    refine ⟨(cast_eq _ _).2 h, (cast_eq _ _).2 ?_⟩
    unfold cel
    rw [← h, ← Int.neg_mul, Int.mul_ediv_cancel _ (by omega)]
    rw [Int.neg_neg]
  · right
    have hc : cel p = flr p + 1 := by
      unfold cel
      have : -p.num / p.den = -(flr p + 1) := by
        refine ((Int.ediv_emod_unique (a := -p.num) (b := p.den) (r := (flr p + 1) * p.den - p.num) (q := -(flr p + 1)) (by omega)).2 ⟨?_, by omega, ?_⟩).1
        · rw [Int.mul_neg, Int.mul_comm (p.den : Int)]; omega
        · rw [Int.add_mul]; omega
      rw [this, Int.neg_neg]
    refine ⟨?_, ?_, ?_⟩
    · unfold cmpR; rw [if_pos ((cast_lt _ _).2 (by omega))]
    · unfold cmpR; rw [hc, if_pos ((lt_cast _ _).2 (by omega))]
    · rw [hc, Rat.intCast_add]; rfl

theorem flr_bnd {p : Rat} {k : Nat} (h : Bnd k p) : Bnd (k + 1) (flr p : Rat) := by
  refine ⟨?_, one_lt_B _ (by omega)⟩
  rw [num_cast, ← floor_sg, sg_natAbs]
  exact dn_lt h.1
theorem cel_bnd {p : Rat} {k : Nat} (h : Bnd k p) : Bnd (k + 1) (cel p : Rat) := by
  refine ⟨?_, one_lt_B _ (by omega)⟩
  rw [num_cast, ← ceil_sg, sg_natAbs]
  exact dn_lt h.1
theorem one_limb {l : List Nat} (h : Norm l) (hv : val l = 1) : l = [1] := norm_inj h norm_one (by rw [hv, val_one])
theorem runD_stn {W : Nat → Prop} {h0 : T AB} {base : Nat} {m i : Nat} {l : List AO} {F : Fr} {S : St} {last : Option Nat} {Q : Fr → St → List Pend → Prop} {n j id : Nat} {x v : Opd} {cs cs' : List AV} (ht : Nat.testBit m j = true) (h : inMask last m = true) (hx : x.val F = .ptr id 0) (hv : (v.val F).cells = some cs') (h1 : cs.length = n) (h2 : cs'.length = n) (hid : base ≤ id)
    (hr : ∀ S1, SameBut id S S1 → S1.nx = S.nx → S1.h.get id = some (.cells cs' false 0) → runD fns W h0 base l (i + 1) F S1 [] (some i) Q) : runD fns W h0 base (⟨none, .x (.st n x v), none, m⟩ :: l) i F S [⟨j, id, .cells cs false 0⟩] last Q := by
  have hb : (⟨S.h.set id (some (.cells cs false 0)), S.nx⟩ : St).h.get id = some (.cells cs false 0) := by simp only; rw [T.get_set, if_pos rfl]
  refine runD_st (S1 := ⟨(S.h.set id (some (.cells cs false 0))).set id (some (.cells cs' false 0)), S.nx⟩) h ?_ ⟨Nat.le_refl _, fun c hc hw => ?_⟩ ?_
  · rw [flush_one ht, hv, osel_some, hx]; exact xst_all hb h1 h2
  · simp only
    rw [flush_one ht, T.get_set, if_neg (by omega)]
  · rw [flush_one ht]
    refine hr _ ⟨Nat.le_refl _, fun c hc hne => ?_⟩ rfl ?_
    · simp only
      rw [T.get_set, if_neg hne, T.get_set, if_neg hne]
    · simp only
      rw [T.get_set, if_pos rfl]


theorem cmp_i64 (p q : Rat) : -9223372036854775808 ≤ cmpR p q ∧ cmpR p q ≤ 9223372036854775807 := by rcases cmpR_cases p q with h | h | h <;> rw [h] <;> decide

set_option maxRecDepth 10000 in
set_option maxHeartbeats 4000000 in
theorem order_spec {S : St} {kv lv mv : AV} {k l m : List Nat} {sv : Int} (H : Has fns) (hL : Laid S) (hF : Fresh S) (hAw : ∀ S, Laid S → wpf fns (.fn 11 [] []) [] S fun r S' => r = .bool true ∧ Same S S')
    (hk : LimbIs S kv k) (hl : LimbIs S lv l) (hm : LimbIs S mv m) : wpf fns (.fn 6 [] []) [kv, lv, mv, .int .i64 sv] S fun r S' => r = .bool true ∧ Same S S' := by
  refine wpf_fn H.f6 (by simp) ?_
  simp only [↓stU, stD, Nat.reduceEqDiff, ↓reduceIte, reduceCtorEq]
  refine wpc_seq (wpc_reg ?_)
  simp only [↓stU, stD, Nat.reduceEqDiff, ↓reduceIte, reduceCtorEq]
  refine wpc_seq (wpc_seq (wpc_mono (Q := fun o A' S' => o = .normal ∧ S' = S ∧ A'.inr = false ∧ tmpV 0 A'.F = kv ∧ tmpV 1 A'.F = lv ∧ tmpV 2 A'.F = mv ∧ tmpV 3 A'.F = .int .i64 sv ∧ tmpV 41 A'.F = .bool (decide (8 < k.length ∨ 8 < l.length ∨ 8 < m.length))) ?_ ?_))
  · refine wpc_reg ?_
    by_cases h1 : 8 < k.length
    · have d1 : decide ((8 : Int) < ((k.length : Nat) : Int)) = true := decide_eq_true (by omega)
      simp only [↓stU, stD, Nat.reduceEqDiff, ↓reduceIte, reduceCtorEq, hk.len, d1]
      simp [h1]
    · have d1 : decide ((8 : Int) < ((k.length : Nat) : Int)) = false := decide_eq_false (by omega)
      by_cases h2 : 8 < l.length
      · have d2 : decide ((8 : Int) < ((l.length : Nat) : Int)) = true := decide_eq_true (by omega)
        simp only [↓stU, stD, Nat.reduceEqDiff, ↓reduceIte, reduceCtorEq, hk.len, hl.len, d1, d2]
        simp [h2]
      · have d2 : decide ((8 : Int) < ((l.length : Nat) : Int)) = false := decide_eq_false (by omega)
        simp only [↓stU, stD, Nat.reduceEqDiff, ↓reduceIte, reduceCtorEq, hk.len, hl.len, hm.len, d1, d2]
        by_cases h3 : 8 < m.length
        · have d3 : decide ((8 : Int) < ((m.length : Nat) : Int)) = true := decide_eq_true (by omega)
          simp [d3, h3]
        · have d3 : decide ((8 : Int) < ((m.length : Nat) : Int)) = false := decide_eq_false (by omega)
          simp [d3, h1, h2, h3]
  rintro o ⟨F, inr⟩ S' ⟨rfl, hS', q0, p0, p1, p2, p3, p41⟩
  simp only at q0 p0 p1 p2 p3 p41
  subst q0
  rw [hS']
  try simp only [↓stU, stD, Nat.reduceEqDiff, ↓reduceIte, reduceCtorEq]
  by_cases hlong : 8 < k.length ∨ 8 < l.length ∨ 8 < m.length
  · refine wpc_if (t := true) (by simp only [↓stU, stD, Nat.reduceEqDiff, ↓reduceIte, reduceCtorEq, p41, decide_eq_true hlong]) (fun _ => ?_) (fun h => by cases h)
    refine wpc_seq (wpc_reg ?_)
    refine wpo_call ?_
    simp only [↓stU, stD, Nat.reduceEqDiff, ↓reduceIte, reduceCtorEq]
    refine wpf_mono (hAw S hL) ?_
    rintro _ S1 ⟨rfl, hS1⟩
    try simp only [↓stU, stD, Nat.reduceEqDiff, ↓reduceIte, reduceCtorEq]
    refine wpc_ret ?_
    simp only [↓stU, stD, Nat.reduceEqDiff, ↓reduceIte, reduceCtorEq]
    exact hS1
  refine wpc_if (t := false) (by simp only [↓stU, stD, Nat.reduceEqDiff, ↓reduceIte, reduceCtorEq, p41, decide_eq_false hlong]) (fun h => by cases h) (fun _ => wpc_skip ?_)
  simp only [↓stU, stD, Nat.reduceEqDiff, ↓reduceIte, reduceCtorEq]
  have n2 : (2 : Int) ≠ 0 := by decide
  -- the first number
  refine wpc_seq (wpc_reg ?_)
  simp only [↓stU, stD, Nat.reduceEqDiff, ↓reduceIte, reduceCtorEq, p0, p1, p3]
  refine wpo_call ?_
  simp only [↓stU, stD, Nat.reduceEqDiff, ↓reduceIte, reduceCtorEq]
  refine wpf_mono (mod_spec H n2) ?_
  rintro _ T ⟨⟨z1, rfl⟩, hT⟩
  rw [hT]
  simp only [↓stU, stD, Nat.reduceEqDiff, ↓reduceIte, reduceCtorEq]
  refine wpo_call ?_
  simp only [↓stU, stD, Nat.reduceEqDiff, ↓reduceIte, reduceCtorEq]
  refine wpf_mono (wpf_fresh (number_spec (neg := decide (z1 = 1)) H hL hk hl (by omega) (by omega))) ?_
  rintro _ S1 ⟨⟨a, p, rfl, hA, bp, hS1⟩, fr1⟩
  obtain ⟨a0, a1, a2, rfl⟩ := hA.cells
  simp only [↓stU, stD, Nat.reduceEqDiff, ↓reduceIte, reduceCtorEq, ex0, ex1]
  refine wpo_allocF ?_
  intro S2 hS2 hn2 hc2 fr2
  refine wpo_stF (b := S1.nx) (by simp only [↓stU, stD, Nat.reduceEqDiff, ↓reduceIte, reduceCtorEq]) (by simp only [↓stU, stD, Nat.reduceEqDiff, ↓reduceIte, reduceCtorEq, cells_agg]; rfl) hc2 rfl rfl ?_
  intro S3 hS3 hn3 hc3 fr3
  simp only [↓stU, stD, Nat.reduceEqDiff, ↓reduceIte, reduceCtorEq]
  have s13 : Same S1 S3 := hS3.same hS2 (Nat.le_refl _)
  have e3 := hS1.trans s13
  -- the second number
  refine wpc_seq (wpc_reg ?_)
  simp only [↓stU, stD, Nat.reduceEqDiff, ↓reduceIte, reduceCtorEq, p1, p2, p3, bin_quo_t (.p .int) n2]
  refine wpo_call ?_
  simp only [↓stU, stD, Nat.reduceEqDiff, ↓reduceIte, reduceCtorEq]
  refine wpf_mono (mod_spec H n2) ?_
  rintro _ T ⟨⟨z2, rfl⟩, hT⟩
  rw [hT]
  simp only [↓stU, stD, Nat.reduceEqDiff, ↓reduceIte, reduceCtorEq]
  refine wpo_call ?_
  simp only [↓stU, stD, Nat.reduceEqDiff, ↓reduceIte, reduceCtorEq]
  refine wpf_mono (wpf_fresh (number_spec (neg := decide (z2 = 1)) H (hL.same e3) (hm.same e3) (hl.same e3) (by omega) (by omega))) ?_
  rintro _ S4 ⟨⟨b, q, rfl, hB, bq, hS4⟩, fr4⟩
  obtain ⟨b0, b1, b2, rfl⟩ := hB.cells
  simp only [↓stU, stD, Nat.reduceEqDiff, ↓reduceIte, reduceCtorEq, ex0, ex1]
  refine wpo_allocF ?_
  intro S5 hS5 hn5 hc5 fr5
  refine wpo_stF (b := S4.nx) (by simp only [↓stU, stD, Nat.reduceEqDiff, ↓reduceIte, reduceCtorEq]) (by simp only [↓stU, stD, Nat.reduceEqDiff, ↓reduceIte, reduceCtorEq, cells_agg]; rfl) hc5 rfl rfl ?_
  intro S6 hS6 hn6 hc6 fr6
  simp only [↓stU, stD, Nat.reduceEqDiff, ↓reduceIte, reduceCtorEq]
  have s46 : Same S4 S6 := hS6.same hS5 (Nat.le_refl _)
  have e6 := e3.trans (hS4.trans s46)
  -- the third number
  have n4 : (4 : Int) ≠ 0 := by decide
  refine wpc_seq (wpc_reg ?_)
  simp only [↓stU, stD, Nat.reduceEqDiff, ↓reduceIte, reduceCtorEq, p0, p2, p3, bin_quo_t (.p .int) n4]
  refine wpo_call ?_
  simp only [↓stU, stD, Nat.reduceEqDiff, ↓reduceIte, reduceCtorEq]
  refine wpf_mono (mod_spec H n2) ?_
  rintro _ T ⟨⟨z3, rfl⟩, hT⟩
  rw [hT]
  simp only [↓stU, stD, Nat.reduceEqDiff, ↓reduceIte, reduceCtorEq]
  refine wpo_call ?_
  simp only [↓stU, stD, Nat.reduceEqDiff, ↓reduceIte, reduceCtorEq]
  refine wpf_mono (wpf_fresh (number_spec (neg := decide (z3 = 1)) H (hL.same e6) (hm.same e6) (hk.same e6) (by omega) (by omega))) ?_
  rintro _ S7 ⟨⟨c, r, rfl, hC, br, hS7⟩, fr7⟩
  obtain ⟨c0, c1, c2, rfl⟩ := hC.cells
  simp only [↓stU, stD, Nat.reduceEqDiff, ↓reduceIte, reduceCtorEq, ex0, ex1]
  refine wpo_allocF ?_
  intro S8 hS8 hn8 hc8 fr8
  refine wpo_stF (b := S7.nx) (by simp only [↓stU, stD, Nat.reduceEqDiff, ↓reduceIte, reduceCtorEq]) (by simp only [↓stU, stD, Nat.reduceEqDiff, ↓reduceIte, reduceCtorEq, cells_agg]; rfl) hc8 rfl rfl ?_
  intro S9 hS9 hn9 hc9 fr9
  simp only [↓stU, stD, Nat.reduceEqDiff, ↓reduceIte, reduceCtorEq]
  have s79 : Same S7 S9 := hS9.same hS8 (Nat.le_refl _)
  have s39 := (hS4.trans s46).trans (hS7.trans s79)
  have s69 := hS7.trans s79
  have e9 := e3.trans s39
  have hF9 : Fresh S9 := fr9.1 (fr8.1 (fr7.1 (fr6.1 (fr5.1 (fr4.1 (fr3.1 (fr2.1 (fr1.1 hF))))))))
  have l34 := hS4.1
  have l67 := hS7.1
  have gA : S9.h.get S1.nx = some (.cells [a0, a1, a2] false 0) := by rw [s39.2 _ (by omega)]; exact hc3
  have gB : S9.h.get S4.nx = some (.cells [b0, b1, b2] false 0) := by rw [s69.2 _ (by omega)]; exact hc6
  have hA9 := hA.same (s13.trans s39)
  have hB9 := hB.same (s46.trans s69)
  have hC9 := hC.same s79
  have ltA : S1.nx < S9.nx := by omega
  have ltB : S4.nx < S9.nx := by omega
  have ltC : S7.nx < S9.nx := by omega
  -- all three are valid
  refine wpc_seq (wpc_seq (wpc_reg ?_))
  simp only [↓stU, stD, Nat.reduceEqDiff, ↓reduceIte, reduceCtorEq, un_not, Bool.not_true]
  refine wpc_if (t := false) (by simp only [↓stU, stD, Nat.reduceEqDiff, ↓reduceIte, reduceCtorEq]) (fun h => by cases h) (fun _ => wpc_skip ?_)
  simp only [↓stU, stD, Nat.reduceEqDiff, ↓reduceIte, reduceCtorEq]
  have gC := hc9
  have ip : InBound p := bp.inBound (by decide)
  have iq : InBound q := bq.inBound (by decide)
  have ir : InBound r := br.inBound (by decide)
  have i_pr : InBound (p + r) := (bp.add br).inBound (by decide)
  have i_qr : InBound (q + r) := (bq.add br).inBound (by decide)
  have m_pr : InBound (p * r) := (bp.mul br).inBound (by decide)
  have m_qr : InBound (q * r) := (bq.mul br).inBound (by decide)
  -- the first comparison
  refine wpc_seq (wpc_reg ?_)
  simp only [↓stU, stD, Nat.reduceEqDiff, ↓reduceIte, reduceCtorEq, ld3 gA, ld3 gB]
  refine wpo_call ?_
  simp only [↓stU, stD, Nat.reduceEqDiff, ↓reduceIte, reduceCtorEq]
  refine wpf_mono (wpf_fresh (rcmp_spec H (hL.same e9) hA9 hB9 ip iq)) ?_
  rintro _ S10 ⟨⟨rfl, s10⟩, fr10⟩
  simp only [↓stU, stD, Nat.reduceEqDiff, ↓reduceIte, reduceCtorEq, ex0, ex1]
  have hF10 : Fresh S10 := fr10.1 hF9
  have e10 := e9.trans s10
  have gA10 : S10.h.get S1.nx = some (.cells [a0, a1, a2] false 0) := by rw [s10.2 _ ltA]; exact gA
  have gB10 : S10.h.get S4.nx = some (.cells [b0, b1, b2] false 0) := by rw [s10.2 _ ltB]; exact gB
  have gC10 : S10.h.get S7.nx = some (.cells [c0, c1, c2] false 0) := by rw [s10.2 _ ltC]; exact gC
  have hA10 := hA9.same s10
  have hB10 := hB9.same s10
  have hC10 := hC9.same s10
  have l10 := s10.1
  have tA : S1.nx < S10.nx := by omega
  have tB : S4.nx < S10.nx := by omega
  have tC : S7.nx < S10.nx := by omega
  -- sums
  refine wpc_seq (wpc_mono (wpc_fresh (Q := fun o A' S' => o = .normal ∧ A'.inr = false ∧ Same S10 S' ∧ tmpV 9 A'.F = .ptr S1.nx 0 ∧ tmpV 11 A'.F = .ptr S4.nx 0 ∧ tmpV 13 A'.F = .ptr S7.nx 0 ∧ tmpV 15 A'.F = .int .i64 (cmpR p q) ∧ tmpV 16 A'.F = .int .i64 0 ∧ tmpV 17 A'.F = .int .i64 (cmpR p q) ∧ tmpV 18 A'.F = .int .i64 0) ?_) ?_)
  · refine wpc_drd1 (fun _ => False) ?_
    intro S11 s11
    have e11 := e10.trans s11
    simp only [↓stU, stD, Nat.reduceEqDiff, ↓reduceIte, reduceCtorEq, ↓stV, stW, Nat.reduceAdd, ld3 gA10, ld3 gC10, tA, tC, not_false_eq_true, self_rat hA, self_rat hC]
    refine runD_call0 rfl ?_
    try simp only [↓stU, stD, Nat.reduceEqDiff, ↓reduceIte, reduceCtorEq, ↓stV, stW, Nat.reduceAdd]
    refine wpf_mono (sum_spec H (hL.same e11) (hA10.same s11) (hC10.same s11) ip ir i_pr) ?_
    rintro w1 S12 ⟨hw1, s12⟩
    refine ⟨s12, ?_⟩
    simp only [↓stU, stD, Nat.reduceEqDiff, ↓reduceIte, reduceCtorEq, ↓stV, stW, Nat.reduceAdd, ld3 gB10, ld3 gC10, tB, tC, not_false_eq_true, self_rat hB, self_rat hC]
    refine runD_call0 rfl ?_
    try simp only [↓stU, stD, Nat.reduceEqDiff, ↓reduceIte, reduceCtorEq, ↓stV, stW, Nat.reduceAdd]
    have s1012 := s11.trans s12
    refine wpf_mono (sum_spec H (hL.same (e10.trans s1012)) (hB10.same s1012) (hC10.same s1012) iq ir i_qr) ?_
    rintro w2 S13 ⟨hw2, s13'⟩
    refine ⟨s13', ?_⟩
    try simp only [↓stU, stD, Nat.reduceEqDiff, ↓reduceIte, reduceCtorEq, ↓stV, stW, Nat.reduceAdd]
    refine runD_call0 rfl ?_
    try simp only [↓stU, stD, Nat.reduceEqDiff, ↓reduceIte, reduceCtorEq, ↓stV, stW, Nat.reduceAdd]
    have s1013 := s1012.trans s13'
    refine wpf_mono (rcmp_spec H (hL.same (e10.trans s1013)) (hw1.same s13') hw2 i_pr i_qr) ?_
    rintro _ S14 ⟨rfl, s14⟩
    refine ⟨s14, ?_⟩
    simp only [↓stU, stD, Nat.reduceEqDiff, ↓reduceIte, reduceCtorEq, ↓stV, stW, Nat.reduceAdd, ex0, ex1, cmpR_add]
    exact s1013.trans s14
  rintro o ⟨F, inr⟩ S14 ⟨⟨rfl, q0, s14, p9, p11, p13, p15, p16, p17, p18⟩, fr14⟩
  simp only at q0 p9 p11 p13 p15 p16 p17 p18
  subst q0
  try simp only [↓stU, stD, Nat.reduceEqDiff, ↓reduceIte, reduceCtorEq]
  have hF14 : Fresh S14 := fr14.1 hF10
  have e14 := e10.trans s14
  have gA14 : S14.h.get S1.nx = some (.cells [a0, a1, a2] false 0) := by rw [s14.2 _ tA]; exact gA10
  have gB14 : S14.h.get S4.nx = some (.cells [b0, b1, b2] false 0) := by rw [s14.2 _ tB]; exact gB10
  have gC14 : S14.h.get S7.nx = some (.cells [c0, c1, c2] false 0) := by rw [s14.2 _ tC]; exact gC10
  have hA14 := hA10.same s14
  have hB14 := hB10.same s14
  have hC14 := hC10.same s14
  have l14 := s14.1
  have tA : S1.nx < S14.nx := by omega
  have tB : S4.nx < S14.nx := by omega
  have tC : S7.nx < S14.nx := by omega
  -- products
  refine wpc_seq (wpc_mono (wpc_fresh (Q := fun o A' S' => o = .normal ∧ A'.inr = false ∧ Same S14 S' ∧ tmpV 9 A'.F = .ptr S1.nx 0 ∧ tmpV 11 A'.F = .ptr S4.nx 0 ∧ tmpV 13 A'.F = .ptr S7.nx 0 ∧ tmpV 15 A'.F = .int .i64 (cmpR p q) ∧ tmpV 16 A'.F = .int .i64 0 ∧ tmpV 17 A'.F = .int .i64 (cmpR p q) ∧ tmpV 18 A'.F = .int .i64 0 ∧ tmpV 19 A'.F = .int .i64 (cmpR p q * cmpR r 0) ∧ tmpV 20 A'.F = .int .i64 0) ?_) ?_)
  · refine wpc_drd1 (fun _ => False) ?_
    intro S15 s15
    have e15 := e14.trans s15
    simp only [↓stU, stD, Nat.reduceEqDiff, ↓reduceIte, reduceCtorEq, ↓stV, stW, Nat.reduceAdd, p9, p11, p13, ld3 gA14, ld3 gC14, tA, tC, not_false_eq_true, self_rat hA, self_rat hC]
    refine runD_call0 rfl ?_
    try simp only [↓stU, stD, Nat.reduceEqDiff, ↓reduceIte, reduceCtorEq, ↓stV, stW, Nat.reduceAdd]
    refine wpf_mono (product_spec H (hL.same e15) (hA14.same s15) (hC14.same s15) ip ir m_pr) ?_
    rintro w1 S16 ⟨hw1, s16⟩
    refine ⟨s16, ?_⟩
    simp only [↓stU, stD, Nat.reduceEqDiff, ↓reduceIte, reduceCtorEq, ↓stV, stW, Nat.reduceAdd, p9, p11, p13, ld3 gB14, ld3 gC14, tB, tC, not_false_eq_true, self_rat hB, self_rat hC]
    refine runD_call0 rfl ?_
    try simp only [↓stU, stD, Nat.reduceEqDiff, ↓reduceIte, reduceCtorEq, ↓stV, stW, Nat.reduceAdd]
    have s1416 := s15.trans s16
    refine wpf_mono (product_spec H (hL.same (e14.trans s1416)) (hB14.same s1416) (hC14.same s1416) iq ir m_qr) ?_
    rintro w2 S17 ⟨hw2, s17⟩
    refine ⟨s17, ?_⟩
    try simp only [↓stU, stD, Nat.reduceEqDiff, ↓reduceIte, reduceCtorEq, ↓stV, stW, Nat.reduceAdd]
    refine runD_call0 rfl ?_
    try simp only [↓stU, stD, Nat.reduceEqDiff, ↓reduceIte, reduceCtorEq, ↓stV, stW, Nat.reduceAdd]
    have s1417 := s1416.trans s17
    refine wpf_mono (rcmp_spec H (hL.same (e14.trans s1417)) (hw1.same s17) hw2 m_pr m_qr) ?_
    rintro _ S18 ⟨rfl, s18⟩
    refine ⟨s18, ?_⟩
    simp only [↓stU, stD, Nat.reduceEqDiff, ↓reduceIte, reduceCtorEq, ↓stV, stW, Nat.reduceAdd, ex0, ex1, cmpR_mul, p9, p11, p13, p15, p16, p17, p18]
    exact s1417.trans s18
  rintro o ⟨F, inr⟩ S18 ⟨⟨rfl, q0, s18, p9, p11, p13, p15, p16, p17, p18, p19, p20⟩, fr18⟩
  simp only at q0 p9 p11 p13 p15 p16 p17 p18 p19 p20
  subst q0
  try simp only [↓stU, stD, Nat.reduceEqDiff, ↓reduceIte, reduceCtorEq]
  have hF18 : Fresh S18 := fr18.1 hF14
  have e18 := e14.trans s18
  have gA18 : S18.h.get S1.nx = some (.cells [a0, a1, a2] false 0) := by rw [s18.2 _ tA]; exact gA14
  have gC18 : S18.h.get S7.nx = some (.cells [c0, c1, c2] false 0) := by rw [s18.2 _ tC]; exact gC14
  have hA18 := hA14.same s18
  have hC18 := hC14.same s18
  have l18 := s18.1
  have tA : S1.nx < S18.nx := by omega
  have tC : S7.nx < S18.nx := by omega
  have o0 := fun (T : St) => of_spec' (S := T) (a := 0) (b := 1) H (by decide) (by decide) (by decide)
  have o1 := fun (T : St) => of_spec' (S := T) (a := 1) (b := 1) H (by decide) (by decide) (by decide)
  have on := fun (T : St) => of_spec' (S := T) (a := Int.negSucc 0) (b := 1) H (by decide) (by decide) (by decide)
  simp only [Int.natCast_one] at o0 o1 on
  rw [show mkRat 0 1 = 0 from rfl] at o0
  rw [show mkRat 1 1 = 1 from rfl] at o1
  rw [show mkRat (Int.negSucc 0) 1 = -1 from rfl] at on
  -- the sign of the third
  refine wpc_seq (wpc_mono (wpc_fresh (Q := fun o A' S' => o = .normal ∧ A'.inr = false ∧ Same S18 S' ∧ tmpV 9 A'.F = .ptr S1.nx 0 ∧ tmpV 15 A'.F = .int .i64 (cmpR p q) ∧ tmpV 16 A'.F = .int .i64 0 ∧ tmpV 17 A'.F = .int .i64 (cmpR p q) ∧ tmpV 18 A'.F = .int .i64 0 ∧ tmpV 19 A'.F = .int .i64 (cmpR p q * cmpR r 0) ∧ tmpV 20 A'.F = .int .i64 0 ∧ tmpV 21 A'.F = .int .i64 (cmpR r 0) ∧ tmpV 22 A'.F = .int .i64 0) ?_) ?_)
  · refine wpc_drd1 (fun _ => False) ?_
    intro S19 s19
    simp only [↓stU, stD, Nat.reduceEqDiff, ↓reduceIte, reduceCtorEq, ↓stV, stW, Nat.reduceAdd, p13, ld3 gC18, tC, not_false_eq_true, self_rat hC]
    refine runD_call0 rfl ?_
    try simp only [↓stU, stD, Nat.reduceEqDiff, ↓reduceIte, reduceCtorEq, ↓stV, stW, Nat.reduceAdd]
    refine wpf_mono (o0 S19) ?_
    rintro w1 S20 ⟨hw1, s20⟩
    refine ⟨s20, ?_⟩
    try simp only [↓stU, stD, Nat.reduceEqDiff, ↓reduceIte, reduceCtorEq, ↓stV, stW, Nat.reduceAdd]
    refine runD_call0 rfl ?_
    try simp only [↓stU, stD, Nat.reduceEqDiff, ↓reduceIte, reduceCtorEq, ↓stV, stW, Nat.reduceAdd]
    have s1820 := s19.trans s20
    refine wpf_mono (rcmp_spec H (hL.same (e18.trans s1820)) (hC18.same s1820) hw1 ir inBound_zero) ?_
    rintro _ S21 ⟨rfl, s21⟩
    refine ⟨s21, ?_⟩
    simp only [↓stU, stD, Nat.reduceEqDiff, ↓reduceIte, reduceCtorEq, ↓stV, stW, Nat.reduceAdd, ex0, ex1, p9, p15, p16, p17, p18, p19, p20]
    exact s1820.trans s21
  rintro o ⟨F, inr⟩ S21 ⟨⟨rfl, q0, s21, p9, p15, p16, p17, p18, p19, p20, p21, p22⟩, fr21⟩
  simp only at q0 p9 p15 p16 p17 p18 p19 p20 p21 p22
  subst q0
  try simp only [↓stU, stD, Nat.reduceEqDiff, ↓reduceIte, reduceCtorEq]
  have hF21 : Fresh S21 := fr21.1 hF18
  have e21 := e18.trans s21
  have gA21 : S21.h.get S1.nx = some (.cells [a0, a1, a2] false 0) := by rw [s21.2 _ tA]; exact gA18
  have hA21 := hA18.same s21
  have l21 := s21.1
  -- they agree
  have d0 : decide ((0 : Int) ≠ 0) = false := rfl
  have c1 : decide (cmpR p q < Int.negSucc 0) = false := by rcases cmpR_cases p q with h | h | h <;> rw [h] <;> rfl
  have c2 : decide ((1 : Int) < cmpR p q) = false := by rcases cmpR_cases p q with h | h | h <;> rw [h] <;> rfl
  have c3 : decide (cmpR p q ≠ cmpR p q) = false := decide_eq_false (fun h => h rfl)
  have c4 : binV .mul (.p .int) (.int .i64 (cmpR p q)) (.int .i64 (cmpR r 0)) = some (.int .i64 (cmpR p q * cmpR r 0)) := by
    rcases cmpR_cases p q with h | h | h <;> rcases cmpR_cases r 0 with h' | h' | h' <;> rw [h, h'] <;> rfl
  have c5 : decide (cmpR p q * cmpR r 0 ≠ cmpR p q * cmpR r 0) = false := decide_eq_false (fun h => h rfl)
  refine wpc_seq (wpc_seq (wpc_reg ?_))
  simp only [↓stU, stD, Nat.reduceEqDiff, ↓reduceIte, reduceCtorEq, p15, p16, p17, p18, p19, p20, p21, p22, d0, c1, c2, c3, c4, c5]
  refine wpc_if (t := false) (by simp only [↓stU, stD, Nat.reduceEqDiff, ↓reduceIte, reduceCtorEq]) (fun h => by cases h) (fun _ => wpc_skip ?_)
  simp only [↓stU, stD, Nat.reduceEqDiff, ↓reduceIte, reduceCtorEq]
  -- the whole number below
  refine wpc_seq (wpc_reg ?_)
  simp only [↓stU, stD, Nat.reduceEqDiff, ↓reduceIte, reduceCtorEq, p9, ld3 gA21]
  refine wpo_call ?_
  simp only [↓stU, stD, Nat.reduceEqDiff, ↓reduceIte, reduceCtorEq]
  have bf := flr_bnd bp
  have bc := cel_bnd bp
  have if' : InBound (flr p : Rat) := bf.inBound (by decide)
  have ic : InBound (cel p : Rat) := bc.inBound (by decide)
  refine wpf_mono (wpf_fresh (rfloor_spec H (hL.same e21) hA21 ip if')) ?_
  rintro _ S22 ⟨⟨fv, rfl, hf, s22⟩, fr22⟩
  obtain ⟨f0, f1, f2, rfl⟩ := hf.cells
  simp only [↓stU, stD, Nat.reduceEqDiff, ↓reduceIte, reduceCtorEq, ex0, ex1]
  refine wpo_allocF ?_
  intro S23 s23 n23 c23 fr23
  refine wpo_stF (b := S22.nx) (by simp only [↓stU, stD, Nat.reduceEqDiff, ↓reduceIte, reduceCtorEq]) (by simp only [↓stU, stD, Nat.reduceEqDiff, ↓reduceIte, reduceCtorEq, cells_agg]; rfl) c23 rfl rfl ?_
  intro S24 s24 n24 gF fr24
  simp only [↓stU, stD, Nat.reduceEqDiff, ↓reduceIte, reduceCtorEq]
  have s2224 : Same S22 S24 := s24.same s23 (Nat.le_refl _)
  have s2124 := s22.trans s2224
  have e24 := e21.trans s2124
  have l2122 := s22.1
  have gA24 : S24.h.get S1.nx = some (.cells [a0, a1, a2] false 0) := by rw [s2124.2 _ (by omega)]; exact gA21
  have hA24 := hA21.same s2124
  have hf24 := hf.same s2224
  -- the whole number above
  refine wpc_seq (wpc_reg ?_)
  simp only [↓stU, stD, Nat.reduceEqDiff, ↓reduceIte, reduceCtorEq, p9, ld3 gA24]
  refine wpo_call ?_
  simp only [↓stU, stD, Nat.reduceEqDiff, ↓reduceIte, reduceCtorEq]
  refine wpf_mono (wpf_fresh (rceil_spec H (hL.same e24) hA24 ip ic)) ?_
  rintro _ S25 ⟨⟨cv, rfl, hc, s25⟩, fr25⟩
  obtain ⟨h0, h1, h2, rfl⟩ := hc.cells
  simp only [↓stU, stD, Nat.reduceEqDiff, ↓reduceIte, reduceCtorEq, ex0, ex1]
  refine wpo_allocF ?_
  intro S26 s26 n26 c26 fr26
  refine wpo_stF (b := S25.nx) (by simp only [↓stU, stD, Nat.reduceEqDiff, ↓reduceIte, reduceCtorEq]) (by simp only [↓stU, stD, Nat.reduceEqDiff, ↓reduceIte, reduceCtorEq, cells_agg]; rfl) c26 rfl rfl ?_
  intro S27 s27 n27 gH fr27
  simp only [↓stU, stD, Nat.reduceEqDiff, ↓reduceIte, reduceCtorEq]
  have s2527 : Same S25 S27 := s27.same s26 (Nat.le_refl _)
  have s2427 := s25.trans s2527
  have e27 := e24.trans s2427
  have l2425 := s25.1
  have hF27 : Fresh S27 := fr27.1 (fr26.1 (fr25.1 (fr24.1 (fr23.1 (fr22.1 hF21)))))
  have gA27 : S27.h.get S1.nx = some (.cells [a0, a1, a2] false 0) := by rw [s2427.2 _ (by omega)]; exact gA24
  have gF27 : S27.h.get S22.nx = some (.cells [f0, f1, f2] false 0) := by rw [s2427.2 _ (by omega)]; exact gF
  have hA27 := hA24.same s2427
  have hf27 := hf24.same s2427
  have hc27 := hc.same s2527
  -- both are whole
  have wholeOf : ∀ {T : St} {x y z : AV} {w : Int}, RatIs T (.agg [x, y, z]) (w : Rat) → LimbIs T z [1] := fun h => by
    obtain ⟨_, _, he, _, ⟨ll, i1, i2, i3⟩⟩ := h
    cases he
    rw [den_cast] at i3
    rw [one_limb i2 i3] at i1
    exact i1
  have he : ∀ F id, evA (.bslice 41 1 1 [AV.int .u32 0] [(0, .c (.int .u32 1))]) F id = some (.sl id 0 1 1 false, .cells [.int .u32 1] false 0) := fun F id => evA_one rfl
  refine wpc_seq (wpc_seq (wpc_mono (wpc_fresh (Q := fun o A' S' => o = .normal ∧ A'.inr = false ∧ Same S27 S' ∧ tmpV 9 A'.F = .ptr S1.nx 0 ∧ tmpV 23 A'.F = .ptr S22.nx 0 ∧ tmpV 24 A'.F = .ptr S25.nx 0 ∧ tmpV 177 A'.F = .bool false) ?_) ?_))
  · refine wpc_reg ?_
    simp only [↓stU, stD, Nat.reduceEqDiff, ↓reduceIte, reduceCtorEq, d0, evQ_faddr, faddr_ptr, ld3_2 gF27]
    refine wpo_al (he _ _) ?_
    intro S28 s28 n28 g28
    simp only [↓stU, stD, Nat.reduceEqDiff, ↓reduceIte, reduceCtorEq]
    refine wpo_call ?_
    simp only [↓stU, stD, Nat.reduceEqDiff, ↓reduceIte, reduceCtorEq]
    have u28 : LimbIs S28 (.sl S27.nx 0 1 1 false) [1] := limbs_own (l := [1]) (o := false) (sz := 0) g28 (by omega) rfl (Nat.le_refl _)
    refine wpf_mono (alike_spec H (wholeOf (hf27.same s28)) u28 (by decide)) ?_
    rintro _ S29 ⟨rfl, s29⟩
    have s2729 := s28.trans s29
    have gH29 : S29.h.get S25.nx = some (.cells [h0, h1, h2] false 0) := by rw [s2729.2 _ (by omega)]; exact gH
    simp only [↓stU, stD, Nat.reduceEqDiff, ↓reduceIte, reduceCtorEq, decide_true, un_not, Bool.not_true, evQ_faddr, faddr_ptr, ld3_2 gH29]
    refine wpo_al (he _ _) ?_
    intro S30 s30 n30 g30
    simp only [↓stU, stD, Nat.reduceEqDiff, ↓reduceIte, reduceCtorEq]
    refine wpo_call ?_
    simp only [↓stU, stD, Nat.reduceEqDiff, ↓reduceIte, reduceCtorEq]
    have u30 : LimbIs S30 (.sl S29.nx 0 1 1 false) [1] := limbs_own (l := [1]) (o := false) (sz := 0) g30 (by omega) rfl (Nat.le_refl _)
    refine wpf_mono (alike_spec H (wholeOf (hc27.same (s2729.trans s30))) u30 (by decide)) ?_
    rintro _ S31 ⟨rfl, s31⟩
    simp only [↓stU, stD, Nat.reduceEqDiff, ↓reduceIte, reduceCtorEq, decide_true, un_not, Bool.not_true, p9]
    exact s2729.trans (s30.trans s31)
  rintro o ⟨F, inr⟩ S31 ⟨⟨rfl, q0, s31, p9, p23, p24, p177⟩, fr31⟩
  simp only at q0 p9 p23 p24 p177
  subst q0
  try simp only [↓stU, stD, Nat.reduceEqDiff, ↓reduceIte, reduceCtorEq]
  refine wpc_if (t := false) (by simp only [↓stU, stD, Nat.reduceEqDiff, ↓reduceIte, reduceCtorEq, p177]) (fun h => by cases h) (fun _ => wpc_skip ?_)
  simp only [↓stU, stD, Nat.reduceEqDiff, ↓reduceIte, reduceCtorEq]
  have e31 := e27.trans s31
  have gA31 : S31.h.get S1.nx = some (.cells [a0, a1, a2] false 0) := by rw [s31.2 _ (by omega)]; exact gA27
  have gF31 : S31.h.get S22.nx = some (.cells [f0, f1, f2] false 0) := by rw [s31.2 _ (by omega)]; exact gF27
  have gH31 : S31.h.get S25.nx = some (.cells [h0, h1, h2] false 0) := by rw [s31.2 _ (by omega)]; exact gH
  have hA31 := hA27.same s31
  have hf31 := hf27.same s31
  have hc31 := hc27.same s31
  have l31 := s31.1
  -- comparisons with both
  refine wpc_seq (wpc_reg ?_)
  simp only [↓stU, stD, Nat.reduceEqDiff, ↓reduceIte, reduceCtorEq, p9, p23, ld3 gA31, ld3 gF31]
  refine wpo_call ?_
  simp only [↓stU, stD, Nat.reduceEqDiff, ↓reduceIte, reduceCtorEq]
  refine wpf_mono (wpf_fresh (rcmp_spec H (hL.same e31) hf31 hA31 if' ip)) ?_
  rintro _ S32 ⟨⟨rfl, s32⟩, fr32⟩
  simp only [↓stU, stD, Nat.reduceEqDiff, ↓reduceIte, reduceCtorEq, ex0, ex1]
  have e32 := e31.trans s32
  have gA32 : S32.h.get S1.nx = some (.cells [a0, a1, a2] false 0) := by rw [s32.2 _ (by omega)]; exact gA31
  have gF32 : S32.h.get S22.nx = some (.cells [f0, f1, f2] false 0) := by rw [s32.2 _ (by omega)]; exact gF31
  have gH32 : S32.h.get S25.nx = some (.cells [h0, h1, h2] false 0) := by rw [s32.2 _ (by omega)]; exact gH31
  have l32 := s32.1
  refine wpc_seq (wpc_reg ?_)
  simp only [↓stU, stD, Nat.reduceEqDiff, ↓reduceIte, reduceCtorEq, p9, p24, ld3 gA32, ld3 gH32]
  refine wpo_call ?_
  simp only [↓stU, stD, Nat.reduceEqDiff, ↓reduceIte, reduceCtorEq]
  refine wpf_mono (wpf_fresh (rcmp_spec H (hL.same e32) (hA31.same s32) (hc31.same s32) ip ic)) ?_
  rintro _ S33 ⟨⟨rfl, s33⟩, fr33⟩
  simp only [↓stU, stD, Nat.reduceEqDiff, ↓reduceIte, reduceCtorEq, ex0, ex1]
  have e33 := e32.trans s33
  have s3133 := s32.trans s33
  have gF33 : S33.h.get S22.nx = some (.cells [f0, f1, f2] false 0) := by rw [s33.2 _ (by omega)]; exact gF32
  have gH33 : S33.h.get S25.nx = some (.cells [h0, h1, h2] false 0) := by rw [s33.2 _ (by omega)]; exact gH32
  have hf33 := hf31.same s3133
  have hc33 := hc31.same s3133
  have hF33 : Fresh S33 := fr33.1 (fr32.1 (fr31.1 hF27))
  have l33 := s33.1
  have tF : S22.nx < S33.nx := by omega
  have tH : S25.nx < S33.nx := by omega
  have bn : Bnd 9 ((-1 : Rat) * (flr p : Rat)) := by rw [Rat.neg_mul, Rat.one_mul]; exact bf.neg
  have i_n : InBound (-1 : Rat) := (Bnd.neg (i := 1) (p := 1) ⟨by decide, by decide⟩).inBound (by decide)
  have bd : InBound ((cel p : Rat) + -1 * (flr p : Rat)) := (bc.add bn).inBound (by decide)
  -- their distance
  refine wpc_seq (wpc_mono (Q := fun o A' S' => o = .normal ∧ A'.inr = false ∧ Same S33 S' ∧ tmpV 16 A'.F = .int .i64 0 ∧ tmpV 18 A'.F = .int .i64 0 ∧ tmpV 25 A'.F = .int .i64 (cmpR (flr p : Rat) p) ∧ tmpV 26 A'.F = .int .i64 (cmpR p (cel p : Rat)) ∧ tmpV 27 A'.F = .ptr (S33.nx + 5) 0 ∧ S33.nx + 5 < S'.nx ∧ ∃ k0 k1 k2, S'.h.get (S33.nx + 5) = some (.cells [k0, k1, k2] false 0) ∧ RatIs S' (.agg [k0, k1, k2]) ((cel p : Rat) + -1 * (flr p : Rat))) ?_ ?_)
  · refine wpc_drd2 (fun _ => False) ?_
    intro S34 s34 he34 hn34
    simp only [List.length_cons, List.length_nil, Nat.reduceAdd] at hn34
    simp only [↓stU, stD, Nat.reduceEqDiff, ↓reduceIte, reduceCtorEq, ↓stV, stW, Nat.reduceAdd, p24, ld3 gH33, tH, not_false_eq_true, self_rat hc]
    refine runD_call0 rfl ?_
    try simp only [↓stU, stD, Nat.reduceEqDiff, ↓reduceIte, reduceCtorEq, ↓stV, stW, Nat.reduceAdd]
    refine wpf_mono (on S34) ?_
    rintro nv S35 ⟨hn, s35⟩
    refine ⟨s35, ?_⟩
    simp only [↓stU, stD, Nat.reduceEqDiff, ↓reduceIte, reduceCtorEq, ↓stV, stW, Nat.reduceAdd, p23, ld3 gF33, tF, not_false_eq_true, self_rat hf]
    refine runD_call0 rfl ?_
    try simp only [↓stU, stD, Nat.reduceEqDiff, ↓reduceIte, reduceCtorEq, ↓stV, stW, Nat.reduceAdd]
    have s3335 := s34.trans s35
    refine wpf_mono (product_spec H (hL.same (e33.trans s3335)) hn (hf33.same s3335) i_n if' (bn.inBound (by decide))) ?_
    rintro w1 S36 ⟨hw1, s36⟩
    refine ⟨s36, ?_⟩
    try simp only [↓stU, stD, Nat.reduceEqDiff, ↓reduceIte, reduceCtorEq, ↓stV, stW, Nat.reduceAdd]
    refine runD_call0 rfl ?_
    try simp only [↓stU, stD, Nat.reduceEqDiff, ↓reduceIte, reduceCtorEq, ↓stV, stW, Nat.reduceAdd]
    have s3336 := s3335.trans s36
    refine wpf_mono (sum_spec H (hL.same (e33.trans s3336)) (hc33.same s3336) hw1 ic (bn.inBound (by decide)) bd) ?_
    rintro w2 S37 ⟨hw2, s37⟩
    refine ⟨s37, ?_⟩
    obtain ⟨k0, k1, k2, rfl⟩ := hw2.cells
    simp only [↓stU, stD, Nat.reduceEqDiff, ↓reduceIte, reduceCtorEq, ↓stV, stW, Nat.reduceAdd, evA_alloc]
    have s3337 := s3336.trans s37
    have hnone : S37.h.get (S33.nx + 5) = none := by
      have := s35.1
      have := s36.1
      rw [s37.2 _ (by omega), s36.2 _ (by omega), s35.2 _ (by omega), he34]; exact hF33 _ (by omega)
    have l37 := (s35.trans (s36.trans s37)).1
    refine runD_stn (by rfl) rfl (by simp only [↓stU, stD, Nat.reduceEqDiff, ↓reduceIte, reduceCtorEq, ↓stV, stW, Nat.reduceAdd]) (by simp only [↓stU, stD, Nat.reduceEqDiff, ↓reduceIte, reduceCtorEq, ↓stV, stW, Nat.reduceAdd, cells_agg]; rfl) rfl rfl (by omega) ?_
    intro S38 s38 hn38 hc38
    simp only [↓stU, stD, Nat.reduceEqDiff, ↓reduceIte, reduceCtorEq, ↓stV, stW, Nat.reduceAdd]
    exact ⟨s38.same s3337 (by omega), by omega, k0, k1, k2, hc38, hw2.lay hnone s38⟩
  rintro o ⟨F, inr⟩ S38 ⟨rfl, q0, s38, p16, p18, p25, p26, p27, t27, k0, k1, k2, g27, hd⟩
  simp only at q0 p16 p18 p25 p26 p27
  subst q0
  try simp only [↓stU, stD, Nat.reduceEqDiff, ↓reduceIte, reduceCtorEq]
  have e38 := e33.trans s38
  have z0 : decide ((0 : Int) = 0) = true := rfl
  rcases whole_case p with ⟨w1, w2⟩ | ⟨w1, w2, w3⟩
  · have v25 : cmpR (flr p : Rat) p = 0 := cmpR_eq0.2 w1
    have v26 : cmpR p (cel p : Rat) = 0 := cmpR_eq0.2 w2.symm
    have vd : (cel p : Rat) + -1 * (flr p : Rat) = 0 := by rw [w1, w2]; grind
    rw [v25] at p25
    rw [v26] at p26
    rw [vd] at hd
    refine wpc_seq (wpc_mono (Q := fun o A' S' => o = .normal ∧ A'.inr = false ∧ Same S38 S' ∧ tmpV 16 A'.F = .int .i64 0 ∧ tmpV 18 A'.F = .int .i64 0 ∧ tmpV 28 A'.F = .bool true) ?_ ?_)
    · refine wpc_drd1 (fun _ => False) ?_
      intro S39 s39
      simp only [↓stU, stD, Nat.reduceEqDiff, ↓reduceIte, reduceCtorEq, ↓stV, stW, Nat.reduceAdd, p25, p26, p27, z0, ld3 g27, t27, not_false_eq_true, self_rat hd]
      refine runD_call0 rfl ?_
      try simp only [↓stU, stD, Nat.reduceEqDiff, ↓reduceIte, reduceCtorEq, ↓stV, stW, Nat.reduceAdd]
      refine wpf_mono (o0 S39) ?_
      rintro w S40 ⟨hw, s40⟩
      refine ⟨s40, ?_⟩
      try simp only [↓stU, stD, Nat.reduceEqDiff, ↓reduceIte, reduceCtorEq, ↓stV, stW, Nat.reduceAdd]
      refine runD_call0 rfl ?_
      try simp only [↓stU, stD, Nat.reduceEqDiff, ↓reduceIte, reduceCtorEq, ↓stV, stW, Nat.reduceAdd]
      refine wpf_mono (sameRat_spec H (hd.same (s39.trans s40)) hw inBound_zero.half.fits) ?_
      rintro _ S41 ⟨rfl, s41⟩
      refine ⟨s41, ?_⟩
      simp only [↓stU, stD, Nat.reduceEqDiff, ↓reduceIte, reduceCtorEq, ↓stV, stW, Nat.reduceAdd, decide_true, p16, p18]
      exact s39.trans (s40.trans s41)
    rintro o ⟨F, inr⟩ S41 ⟨rfl, q0, s41, p16, p18, p28⟩
    simp only at q0 p16 p18 p28
    subst q0
    try simp only [↓stU, stD, Nat.reduceEqDiff, ↓reduceIte, reduceCtorEq]
    have e41 := e38.trans s41
    refine wpc_seq (wpc_mono (Q := fun o A' S' => o = .normal ∧ Same S41 S' ∧ tmpV 8 A'.F = .bool true) ?_ ?_)
    · refine wpc_drd1 (fun _ => False) ?_
      intro S42 s42
      simp only [↓stU, stD, Nat.reduceEqDiff, ↓reduceIte, reduceCtorEq, ↓stV, stW, Nat.reduceAdd, p16, p18, p28, z0, decide_true, decide_false]
      refine runD_call0 rfl ?_
      try simp only [↓stU, stD, Nat.reduceEqDiff, ↓reduceIte, reduceCtorEq, ↓stV, stW, Nat.reduceAdd]
      refine wpf_mono (hAw S42 (hL.same (e41.trans s42))) ?_
      rintro _ S43 ⟨rfl, s43⟩
      refine ⟨s43, ?_⟩
      simp only [↓stU, stD, Nat.reduceEqDiff, ↓reduceIte, reduceCtorEq, ↓stV, stW, Nat.reduceAdd]
      exact s42.trans s43
    rintro o ⟨F, inr⟩ S43 ⟨rfl, s43, p8⟩
    simp only at p8
    try simp only [↓stU, stD, Nat.reduceEqDiff, ↓reduceIte, reduceCtorEq]
    refine wpc_ret ?_
    simp only [↓stU, stD, Nat.reduceEqDiff, ↓reduceIte, reduceCtorEq, p8]
    exact e41.trans s43
  · have vd : (cel p : Rat) + -1 * (flr p : Rat) = 1 := by rw [w3]; grind
    rw [w1] at p25
    rw [w2] at p26
    rw [vd] at hd
    have zn : decide ((-1 : Int) = 0) = false := rfl
    have zm : decide ((-1 : Int) = Int.negSucc 0) = true := rfl
    refine wpc_seq (wpc_mono (Q := fun o A' S' => o = .normal ∧ A'.inr = false ∧ Same S38 S' ∧ tmpV 16 A'.F = .int .i64 0 ∧ tmpV 18 A'.F = .int .i64 0 ∧ tmpV 25 A'.F = .int .i64 (-1) ∧ tmpV 26 A'.F = .int .i64 (-1) ∧ tmpV 27 A'.F = .ptr (S33.nx + 5) 0 ∧ tmpV 28 A'.F = .bool false) ?_ ?_)
    · refine wpc_drd1 (fun _ => False) ?_
      intro S39 s39
      simp only [↓stU, stD, Nat.reduceEqDiff, ↓reduceIte, reduceCtorEq, ↓stV, stW, Nat.reduceAdd, p25, p26, p27, p16, p18, zn, decide_true, decide_false]
      exact s39
    rintro o ⟨F, inr⟩ S41 ⟨rfl, q0, s41, p16, p18, p25, p26, p27, p28⟩
    simp only at q0 p16 p18 p25 p26 p27 p28
    subst q0
    try simp only [↓stU, stD, Nat.reduceEqDiff, ↓reduceIte, reduceCtorEq]
    have e41 := e38.trans s41
    have g41 : S41.h.get (S33.nx + 5) = some (.cells [k0, k1, k2] false 0) := by rw [s41.2 _ t27]; exact g27
    have t41 : S33.nx + 5 < S41.nx := by have := s41.1; omega
    refine wpc_seq (wpc_mono (Q := fun o A' S' => o = .normal ∧ Same S41 S' ∧ tmpV 8 A'.F = .bool true) ?_ ?_)
    · refine wpc_drd1 (fun _ => False) ?_
      intro S42 s42
      simp only [↓stU, stD, Nat.reduceEqDiff, ↓reduceIte, reduceCtorEq, ↓stV, stW, Nat.reduceAdd, p16, p18, p25, p26, p27, p28, z0, zm, ld3 g41, t41, not_false_eq_true, self_rat hd, decide_true, decide_false]
      refine runD_call0 rfl ?_
      try simp only [↓stU, stD, Nat.reduceEqDiff, ↓reduceIte, reduceCtorEq, ↓stV, stW, Nat.reduceAdd]
      refine wpf_mono (o1 S42) ?_
      rintro w S43 ⟨hw, s43⟩
      refine ⟨s43, ?_⟩
      try simp only [↓stU, stD, Nat.reduceEqDiff, ↓reduceIte, reduceCtorEq, ↓stV, stW, Nat.reduceAdd]
      refine runD_call0 rfl ?_
      try simp only [↓stU, stD, Nat.reduceEqDiff, ↓reduceIte, reduceCtorEq, ↓stV, stW, Nat.reduceAdd]
      have s4143 := s42.trans s43
      refine wpf_mono (sameRat_spec H (hd.same (s41.trans s4143)) hw inBound_one.half.fits) ?_
      rintro _ S44 ⟨rfl, s44⟩
      refine ⟨s44, ?_⟩
      simp only [↓stU, stD, Nat.reduceEqDiff, ↓reduceIte, reduceCtorEq, ↓stV, stW, Nat.reduceAdd, decide_true, p28]
      refine runD_call0 rfl ?_
      try simp only [↓stU, stD, Nat.reduceEqDiff, ↓reduceIte, reduceCtorEq, ↓stV, stW, Nat.reduceAdd]
      have s4144 := s4143.trans s44
      refine wpf_mono (hAw S44 (hL.same (e41.trans s4144))) ?_
      rintro _ S45 ⟨rfl, s45⟩
      refine ⟨s45, ?_⟩
      simp only [↓stU, stD, Nat.reduceEqDiff, ↓reduceIte, reduceCtorEq, ↓stV, stW, Nat.reduceAdd]
      exact s4144.trans s45
    rintro o ⟨F, inr⟩ S45 ⟨rfl, s45, p8⟩
    simp only at p8
    try simp only [↓stU, stD, Nat.reduceEqDiff, ↓reduceIte, reduceCtorEq]
    refine wpc_ret ?_
    simp only [↓stU, stD, Nat.reduceEqDiff, ↓reduceIte, reduceCtorEq, p8]
    exact e41.trans s45
end Go.Ev.Gl
