/- Contracts (4): rational numbers, the statements' tools, the law. -/
import Derived.Test.YtmbmidkdinllgaaDoorGl3
set_option maxHeartbeats 4000000
set_option linter.unusedSimpArgs false
set_option linter.unusedVariables false
namespace Go.Ev.Gl
variable {fns : T AFn}

/-! ## The rules, with what lies beyond the last block -/
theorem wpo_boxF {d t m : Nat} {x : Opd} {l : List AO} {F : Fr} {S : St} {Q : Fr → St → Prop} {cs : List AV} (hc : (x.val F).cells = some cs) (h : ∀ S1, Same S S1 → S1.nx = S.nx + 1 → S1.h.get S.nx = some (.cells cs false 0) → Frs S S1 → wpo fns l (putF (some d) F (.ptr S.nx 0)) S1 Q) : wpo fns (⟨some d, .a (.box t x), none, m⟩ :: l) F S Q := by
  rw [wpo_aE]
  refine ⟨(.ptr S.nx 0, .cells cs false 0), by rw [evA_box, hc]; rfl, h _ (Same.alloc S _) rfl ?_ (frs_alloc S _)⟩
  simp only
  rw [T.get_set, if_pos rfl]
theorem wpo_allocF {d t m : Nat} {l : List AO} {F : Fr} {S : St} {Q : Fr → St → Prop} {cs : List AV} (h : ∀ S1, Same S S1 → S1.nx = S.nx + 1 → S1.h.get S.nx = some (.cells cs false 0) → Frs S S1 → wpo fns l (putF (some d) F (.ptr S.nx 0)) S1 Q) : wpo fns (⟨some d, .a (.alloc t cs), none, m⟩ :: l) F S Q := by
  rw [wpo_aE]
  refine ⟨(.ptr S.nx 0, .cells cs false 0), rfl, h _ (Same.alloc S _) rfl ?_ (frs_alloc S _)⟩
  simp only
  rw [T.get_set, if_pos rfl]
theorem wpo_stF {n m b s : Nat} {x v : Opd} {l : List AO} {F : Fr} {S : St} {Q : Fr → St → Prop} {cs cs' : List AV} {o : Bool} (hx : x.val F = .ptr b 0) (hv : (v.val F).cells = some cs') (hb : S.h.get b = some (.cells cs o s)) (h1 : cs.length = n) (h2 : cs'.length = n)
    (h : ∀ S1, SameBut b S S1 → S1.nx = S.nx → S1.h.get b = some (.cells cs' o s) → Frs S S1 → wpo fns l F S1 Q) : wpo fns (⟨none, .x (.st n x v), none, m⟩ :: l) F S Q := by
  refine wpo_x (v := .undef) (fun call => ?_) (h ⟨S.h.set b (some (.cells cs' o s)), S.nx⟩ ((SameBut.refl b S).put _) rfl ?_ (frs_set hb _))
  · rw [evX_st, hv, osel_some, hx]; exact xst_all hb h1 h2
  · simp only
    rw [T.get_set, if_pos rfl]
theorem wpc_drd2 (W : Nat → Prop) {ops : List AO} {A : Act'} {S : St} {Q : Out → Act' → St → Prop} (h : ∀ S1, Same S S1 → S1.h = S.h → S1.nx = S.nx + ops.length → runD fns W S.h S.nx ops 0 A.F S1 [] none fun F S' ps => Q .normal ⟨F, A.inr⟩ ⟨(flush (2 ^ ops.length - 1) ps S'.h).2, S'.nx⟩) : wpc fns (.drw ops) A S Q := wpc_drd W (h _ (Same.nx S _) rfl rfl)

/-! ## Signs -/
def sgn (q : Rat) : Int := if q.num = 0 then 1 else if q.num < 0 then 0 else 2
theorem signOf_spec {S : St} {v : AV} {q : Rat} (H : Has fns) (h : RatIs S v q) : wpf fns (.fn 51 [] []) [v] S fun r S' => r = .int .i64 (sgn q) ∧ Same S S' := by
  obtain ⟨nv, dv, rfl, h1, h2⟩ := h
  obtain ⟨k, hk, hk0⟩ := lenpos h1
  refine wpf_fn H.f51 (by simp) ?_
  simp only [↓stU, stD, Nat.reduceEqDiff, ↓reduceIte, reduceCtorEq]
  refine wpc_seq (wpc_reg ?_)
  refine wpo_box (by simp only [↓stU, stD, Nat.reduceEqDiff, ↓reduceIte, reduceCtorEq, cells_agg]; rfl) ?_
  intro S1 hS1 hn1 hb1
  simp only [↓stU, stD, Nat.reduceEqDiff, ↓reduceIte, reduceCtorEq]
  refine wpc_seq (wpc_block (wpc_seq (wpc_reg ?_)))
  simp only [↓stU, stD, Nat.reduceEqDiff, ↓reduceIte, reduceCtorEq, evQ_faddr, faddr_ptr, ld3_1 hb1, hk]
  by_cases h0 : q.num = 0
  · have : k = 0 := hk0.2 (by omega)
    refine wpc_if (t := true) (by simp only [↓stU, stD, Nat.reduceEqDiff, ↓reduceIte, reduceCtorEq, decide_eq_true (show (k : Int) = 0 by omega)]) (fun _ => ?_) (fun h => by cases h)
    refine wpc_seq (wpc_reg ?_)
    simp only [↓stU, stD, Nat.reduceEqDiff, ↓reduceIte, reduceCtorEq]
    refine wpc_ret ?_
    simp only [↓stU, stD, Nat.reduceEqDiff, ↓reduceIte, reduceCtorEq, sgn, if_pos h0]
    exact hS1
  have : ¬ k = 0 := fun h => h0 (by have := hk0.1 h; omega)
  refine wpc_if (t := false) (by simp only [↓stU, stD, Nat.reduceEqDiff, ↓reduceIte, reduceCtorEq, decide_eq_false (show ¬ (k : Int) = 0 by omega)]) (fun h => by cases h) (fun _ => ?_)
  refine wpc_seq (wpc_reg ?_)
  simp only [↓stU, stD, Nat.reduceEqDiff, ↓reduceIte, reduceCtorEq, evQ_faddr, faddr_ptr, ld3_0 hb1]
  by_cases h1 : q.num < 0
  · refine wpc_if (t := true) (by simp only [↓stU, stD, Nat.reduceEqDiff, ↓reduceIte, reduceCtorEq, decide_eq_true h1]) (fun _ => ?_) (fun h => by cases h)
    refine wpc_seq (wpc_reg ?_)
    simp only [↓stU, stD, Nat.reduceEqDiff, ↓reduceIte, reduceCtorEq]
    refine wpc_ret ?_
    simp only [↓stU, stD, Nat.reduceEqDiff, ↓reduceIte, reduceCtorEq, sgn, if_neg h0, if_pos h1]
    exact hS1
  refine wpc_if (t := false) (by simp only [↓stU, stD, Nat.reduceEqDiff, ↓reduceIte, reduceCtorEq, decide_eq_false h1]) (fun h => by cases h) (fun _ => wpc_skip ?_)
  simp only [↓stU, stD, Nat.reduceEqDiff, ↓reduceIte, reduceCtorEq]
  refine wpc_seq (wpc_reg ?_)
  simp only [↓stU, stD, Nat.reduceEqDiff, ↓reduceIte, reduceCtorEq]
  refine wpc_ret ?_
  simp only [↓stU, stD, Nat.reduceEqDiff, ↓reduceIte, reduceCtorEq, sgn, if_neg h0, if_neg h1]
  exact hS1

end Go.Ev.Gl

namespace Go.Ev.Gl
variable {fns : T AFn}

/-! ## The statements' own tools -/
theorem bin_rem_nat (e : EqT) (k : IntKind) {t d : Nat} (hd : 0 < d) : binV .rem e (.int k ((t : Nat) : Int)) (.int k ((d : Nat) : Int)) = some (.int k ((t % d : Nat) : Int)) := by
  show intsBin .rem k (Int.ofNat t) k (Int.ofNat d) = _
  unfold intsBin
  rw [show isShift .rem = false from rfl, bsel_false, keq_refl, bsel_true]
  show bsel (Nat.beq d 0) none (some (AV.int k (.ofNat (t % d)))) = _
  have h0 : Nat.beq d 0 = false := by rw [Bool.eq_false_iff]; intro h; rw [Nat.beq_eq] at h; omega
  rw [h0, bsel_false]
  rfl
theorem same_of_h {S S' : St} (h1 : S'.h = S.h) (h2 : S.nx ≤ S'.nx) : Same S S' := ⟨h2, fun _ _ => by rw [h1]⟩

end Go.Ev.Gl

namespace Go.Ev.Gl
variable {fns : T AFn}

def NatOfI (S : St) (n : Nat) (k : Nat) (A : Act') (S' : St) : Prop :=
  A.inr = false ∧ ∃ (d : List Nat) (v : AV), tmpV 0 A.F = .int .i64 (k : Int) ∧ k ≤ n ∧ tmpV 3 A.F = v ∧ GrIs S S' v d ∧ Same S S' ∧ Small d ∧ val d + B ^ d.length * k = n ∧ (d = [] ∨ B ^ (d.length - 1) ≤ n)

theorem natOf_spec {S : St} {n : Nat} (H : Has fns) (hn : n ≤ 9223372036854775807) : wpf fns (.fn 61 [] []) [.int .i64 (n : Int)] S fun r S' => NatIs S' r n ∧ Same S S' := by
  refine wpf_fn H.f61 (by simp) ?_
  simp only [↓stU, stD, Nat.reduceEqDiff, ↓reduceIte, reduceCtorEq]
  refine wpc_seq (wpc_reg ?_)
  simp only [↓stU, stD, Nat.reduceEqDiff, ↓reduceIte, reduceCtorEq]
  refine wpc_seq (wpc_reg ?_)
  simp only [↓stU, stD, Nat.reduceEqDiff, ↓reduceIte, reduceCtorEq]
  refine wpc_seq (wpc_block (wpc_loop (NatOfI S n) ?_ n _ _ ⟨rfl, [], .nilsl, by simp only [↓stU, stD, Nat.reduceEqDiff, ↓reduceIte, reduceCtorEq], Nat.le_refl _, by simp only [↓stU, stD, Nat.reduceEqDiff, ↓reduceIte, reduceCtorEq], .inl ⟨rfl, rfl⟩, Same.refl S, Small.nil, by simp [val_nil], .inl rfl⟩))
  rintro k ⟨F, inr⟩ S' ⟨q0, d, v, p0, hk, p3, hv, hS, hsd, hinv, hlow⟩
  simp only at q0 p0 p3
  subst q0
  refine wpc_seq (wpc_seq (wpc_reg ?_))
  simp only [↓stU, stD, Nat.reduceEqDiff, ↓reduceIte, reduceCtorEq, ↓stV, stW, Nat.reduceAdd, p0]
  by_cases hk0 : 0 < k
  · refine wpc_if (t := true) (by simp only [↓stU, stD, Nat.reduceEqDiff, ↓reduceIte, reduceCtorEq, ↓stV, stW, Nat.reduceAdd, decide_eq_true (show (0 : Int) < (k : Int) by omega)]) (fun _ => wpc_skip ?_) (fun h => by cases h)
    try simp only [↓stU, stD, Nat.reduceEqDiff, ↓reduceIte, reduceCtorEq, ↓stV, stW, Nat.reduceAdd]
    have hquo := bin_quo_i (.p .int) (a := (k : Int)) (b := 1000000000) (by omega) (by omega) (by decide)
    rw [show (k : Int) / 1000000000 = ((k / B : Nat) : Int) from rfl] at hquo
    have hrem := bin_rem_nat (.p .int) .i64 (t := k) (d := B) B_pos
    rw [show ((B : Nat) : Int) = 1000000000 from rfl] at hrem
    have hdm : k / B * B + k % B = k := by rw [Nat.mul_comm]; exact Nat.div_add_mod k B
    have hmod : k % B < 1000000000 := Nat.mod_lt k B_pos
    have hdiv : k / B < k := Nat.div_lt_self hk0 (by decide)
    have hpow : B ^ d.length ≤ n := by
      have : B ^ d.length * 1 ≤ B ^ d.length * k := Nat.mul_le_mul_left _ hk0
      omega
    have hdl : d.length ≤ 100 := by
      rcases Nat.lt_or_ge 100 d.length with h | h
      · have h1 : B ^ 3 ≤ B ^ d.length := Nat.pow_le_pow_right B_pos (by omega)
        have h2 : (18446744073709551615 : Nat) < B ^ 3 := by decide
        omega
      · exact h
    have hstep : val d + B ^ d.length * (k % B) + B ^ (d.length + 1) * (k / B) = n := by
      rw [← hinv, Nat.pow_succ, Nat.mul_assoc, Nat.add_assoc, ← Nat.mul_add]
      congr 2
      rw [Nat.mul_comm B, Nat.add_comm]
      exact hdm
    generalize k / B = q at hdm hquo hdiv hstep
    generalize k % B = r at hdm hmod hrem hstep
    have w1 : IntKind.u32.wrap (r : Int) = (r : Int) := wrap_u32 (by omega) (by omega)
    obtain ⟨v', S2, happ, hg, hS2⟩ := hv.app (w := r) (bytes := 4) hS (by unfold room; omega) (by unfold room; omega)
    refine wpc_block (wpc_seq (wpc_reg ?_))
    simp only [↓stU, stD, Nat.reduceEqDiff, ↓reduceIte, reduceCtorEq, ↓stV, stW, Nat.reduceAdd, p0, p3, hrem, w1]
    rw [evA_one (k := .u32) (n := (r : Int)) (by simp only [↓stU, stD, Nat.reduceEqDiff, ↓reduceIte, reduceCtorEq, ↓stV, stW, Nat.reduceAdd])]
    try simp only [↓stU, stD, Nat.reduceEqDiff, ↓reduceIte, reduceCtorEq, ↓stV, stW, Nat.reduceAdd]
    refine wpo_x (fun call => by simp only [↓stU, stD, Nat.reduceEqDiff, ↓reduceIte, reduceCtorEq, ↓stV, stW, Nat.reduceAdd, evX_app, p3]; exact happ) ?_
    try simp only [↓stU, stD, Nat.reduceEqDiff, ↓reduceIte, reduceCtorEq, ↓stV, stW, Nat.reduceAdd]
    refine wpc_reg ?_
    simp only [↓stU, stD, Nat.reduceEqDiff, ↓reduceIte, reduceCtorEq, ↓stV, stW, Nat.reduceAdd, p0, hquo]
    exact ⟨q, hdiv, rfl, d ++ [r], v', by simp only [↓stU, stD, Nat.reduceEqDiff, ↓reduceIte, reduceCtorEq, ↓stV, stW, Nat.reduceAdd], by omega, by simp only [↓stU, stD, Nat.reduceEqDiff, ↓reduceIte, reduceCtorEq, ↓stV, stW, Nat.reduceAdd], hg, hS2, Small.append.2 ⟨hsd, small_one hmod⟩, by rw [val_snoc, List.length_append]; exact hstep, by right; rw [List.length_append]; exact hpow⟩
  · have hk0 : k = 0 := by omega
    subst hk0
    refine wpc_if (t := false) (by simp only [↓stU, stD, Nat.reduceEqDiff, ↓reduceIte, reduceCtorEq, ↓stV, stW, Nat.reduceAdd]; rfl) (fun h => by cases h) (fun _ => wpc_exit ?_)
    try simp only [↓stU, stD, Nat.reduceEqDiff, ↓reduceIte, reduceCtorEq, ↓stV, stW, Nat.reduceAdd]
    refine wpc_seq (wpc_reg ?_)
    simp only [↓stU, stD, Nat.reduceEqDiff, ↓reduceIte, reduceCtorEq, ↓stV, stW, Nat.reduceAdd, p3]
    refine wpc_ret ?_
    try simp only [↓stU, stD, Nat.reduceEqDiff, ↓reduceIte, reduceCtorEq, ↓stV, stW, Nat.reduceAdd]
    refine ⟨⟨d, hv.limbs, norm_of_low hsd ?_, by simpa using hinv⟩, hS⟩
    rcases hlow with h | h
    · exact .inl h
    · right
      simp at hinv
      omega

def KgI (S : St) (g : Nat) (k : Nat) (A : Act') (S' : St) : Prop :=
  A.inr = false ∧ S'.h = S.h ∧ S.nx ≤ S'.nx ∧ ∃ a b : Nat, tmpV 0 A.F = .int .i64 (a : Int) ∧ tmpV 1 A.F = .int .i64 (b : Int) ∧ a ≤ 9223372036854775807 ∧ b ≤ 9223372036854775807 ∧ Nat.gcd a b = g ∧ k = b

theorem kgcd_spec {S : St} {x y : Nat} (H : Has fns) (hx : x ≤ 9223372036854775807) (hy : y ≤ 9223372036854775807) : wpf fns (.fn 60 [] []) [.int .i64 (x : Int), .int .i64 (y : Int)] S fun r S' => r = .int .i64 ((Nat.gcd x y : Nat) : Int) ∧ Same S S' := by
  refine wpf_fn H.f60 (by simp) ?_
  try simp only [↓stU, stD, Nat.reduceEqDiff, ↓reduceIte, reduceCtorEq, ↓stV, stW, Nat.reduceAdd]
  refine wpc_seq (wpc_reg ?_)
  try simp only [↓stU, stD, Nat.reduceEqDiff, ↓reduceIte, reduceCtorEq, ↓stV, stW, Nat.reduceAdd]
  refine wpc_seq (wpc_mono (Q := fun o A' S' => o = .normal ∧ Same S S' ∧ tmpV 0 A'.F = .int .i64 ((Nat.gcd x y : Nat) : Int) ∧ Nat.gcd x y ≤ 9223372036854775807) ?_ ?_)
  · refine wpc_block (wpc_loop (KgI S (Nat.gcd x y)) ?_ y _ _ ⟨rfl, rfl, Nat.le_refl _, x, y, by simp only [↓stU, stD, Nat.reduceEqDiff, ↓reduceIte, reduceCtorEq, ↓stV, stW, Nat.reduceAdd], by simp only [↓stU, stD, Nat.reduceEqDiff, ↓reduceIte, reduceCtorEq, ↓stV, stW, Nat.reduceAdd], hx, hy, rfl, rfl⟩)
    rintro k ⟨F, inr⟩ S' ⟨q0, hh, hnx, a, b, p0, p1, ha, hb, hg, rfl⟩
    simp only at q0 p0 p1
    subst q0
    refine wpc_seq (wpc_seq (wpc_reg ?_))
    simp only [↓stU, stD, Nat.reduceEqDiff, ↓reduceIte, reduceCtorEq, ↓stV, stW, Nat.reduceAdd, p1]
    rcases Nat.eq_zero_or_pos k with h0 | hkp
    · subst h0
      refine wpc_if (t := false) (by simp only [↓stU, stD, Nat.reduceEqDiff, ↓reduceIte, reduceCtorEq, ↓stV, stW, Nat.reduceAdd]; rfl) (fun h => by cases h) (fun _ => wpc_exit ?_)
      rw [Nat.gcd_zero_right] at hg
      rw [← hg]
      simp only [↓stU, stD, Nat.reduceEqDiff, ↓reduceIte, reduceCtorEq, ↓stV, stW, Nat.reduceAdd, p0]
      exact ⟨same_of_h hh hnx, ha⟩
    · refine wpc_if (t := true) (by simp only [↓stU, stD, Nat.reduceEqDiff, ↓reduceIte, reduceCtorEq, ↓stV, stW, Nat.reduceAdd, decide_eq_true (show (k : Int) ≠ 0 by omega)]) (fun _ => wpc_skip ?_) (fun h => by cases h)
      try simp only [↓stU, stD, Nat.reduceEqDiff, ↓reduceIte, reduceCtorEq, ↓stV, stW, Nat.reduceAdd]
      have hrem := bin_rem_nat (.p .int) .i64 (t := a) (d := k) hkp
      refine wpc_block (wpc_drq ?_)
      simp only [↓stU, stD, Nat.reduceEqDiff, ↓reduceIte, reduceCtorEq, ↓stV, stW, Nat.reduceAdd, p0, p1, hrem]
      refine ⟨a % k, Nat.mod_lt _ hkp, rfl, hh, by simp; omega, k, a % k, by simp only [↓stU, stD, Nat.reduceEqDiff, ↓reduceIte, reduceCtorEq, ↓stV, stW, Nat.reduceAdd], by simp only [↓stU, stD, Nat.reduceEqDiff, ↓reduceIte, reduceCtorEq, ↓stV, stW, Nat.reduceAdd], hb, by have := Nat.mod_lt a hkp; omega, ?_, rfl⟩
      rw [← hg, Nat.gcd_comm a k, Nat.gcd_rec k a, Nat.gcd_comm]
  · rintro o ⟨F, inr⟩ S' ⟨rfl, hS, p0, hg⟩
    simp only at p0
    try simp only [↓stU, stD, Nat.reduceEqDiff, ↓reduceIte, reduceCtorEq, ↓stV, stW, Nat.reduceAdd]
    refine wpc_seq (wpc_reg ?_)
    have w1 : IntKind.i64.wrap (-((Nat.gcd x y : Nat) : Int)) = -((Nat.gcd x y : Nat) : Int) := wrap_i64 (by omega) (by omega)
    simp only [↓stU, stD, Nat.reduceEqDiff, ↓reduceIte, reduceCtorEq, ↓stV, stW, Nat.reduceAdd, p0, un_neg_i, w1, evQ_mm, mm_cons, mm_int, mm_nil]
    refine wpc_ret ?_
    have : mx ((Nat.gcd x y : Nat) : Int) (-((Nat.gcd x y : Nat) : Int)) = ((Nat.gcd x y : Nat) : Int) := by unfold mx; rw [if_pos (by omega)]
    simp only [↓stU, stD, Nat.reduceEqDiff, ↓reduceIte, reduceCtorEq, ↓stV, stW, Nat.reduceAdd, this]
    exact hS

theorem ratOf_spec {S : St} {a : Int} {b : Nat} (H : Has fns) (ha : -9223372036854775807 ≤ a ∧ a ≤ 9223372036854775807) (hb0 : 0 < b) (hb : b ≤ 9223372036854775807) : wpf fns (.fn 16 [] []) [.int .i64 a, .int .i64 (b : Int)] S fun r S' => RatIs S' r (mkRat a b) ∧ Same S S' := by
  have hg : 0 < Nat.gcd a.natAbs b := Nat.gcd_pos_of_pos_right _ hb0
  have w1 : IntKind.i64.wrap (-a) = -a := wrap_i64 (by omega) (by omega)
  have hmx : mx a (-a) = ((a.natAbs : Nat) : Int) := by unfold mx; split <;> omega
  refine wpf_fn H.f16 (by simp) ?_
  simp only [↓stU, stD, Nat.reduceEqDiff, ↓reduceIte, reduceCtorEq]
  refine wpc_seq (wpc_reg ?_)
  refine wpo_alloc ?_
  intro S1 hS1 hn1 hb1
  simp only [↓stU, stD, Nat.reduceEqDiff, ↓reduceIte, reduceCtorEq]
  refine wpc_seq (wpc_reg ?_)
  simp only [↓stU, stD, Nat.reduceEqDiff, ↓reduceIte, reduceCtorEq, ↓stV, stW, Nat.reduceAdd, un_neg_i, w1, evQ_mm, mm_cons, mm_int, mm_nil, hmx]
  refine wpo_call ?_
  try simp only [↓stU, stD, Nat.reduceEqDiff, ↓reduceIte, reduceCtorEq, ↓stV, stW, Nat.reduceAdd]
  refine wpf_mono (kgcd_spec H (by omega) hb) ?_
  rintro _ S2 ⟨rfl, hS2⟩
  try simp only [↓stU, stD, Nat.reduceEqDiff, ↓reduceIte, reduceCtorEq, ↓stV, stW, Nat.reduceAdd]
  obtain ⟨g, hge⟩ : ∃ g, g = Nat.gcd a.natAbs b := ⟨_, rfl⟩
  rw [← hge] at hg ⊢
  have hga : g ∣ a.natAbs := by rw [hge]; exact Nat.gcd_dvd_left ..
  have hgb : g ≤ 9223372036854775807 := by have := Nat.gcd_le_right a.natAbs hb0; rw [← hge] at this; omega
  -- the quotients
  have hq2 : binV .quo (.p .int) (.int .i64 (b : Int)) (.int .i64 (g : Int)) = some (.int .i64 ((b / g : Nat) : Int)) := by
    rw [bin_quo_i (.p .int) (by omega) (by omega) (by omega)]; rfl
  obtain ⟨n, hn⟩ : ∃ n, n = a.natAbs / g := ⟨_, rfl⟩
  have hnle : n ≤ 9223372036854775807 := by have := Nat.div_le_self a.natAbs g; omega
  obtain ⟨s, hs⟩ : ∃ s, s = decide (a < 0) := ⟨_, rfl⟩
  have hq1 : binV .quo (.p .int) (.int .i64 a) (.int .i64 (g : Int)) = some (.int .i64 (sg s n)) := by
    rw [bin_quo_t (.p .int) (by omega)]
    congr 2
    by_cases hneg : a < 0
    · have e1 : a = -((a.natAbs : Nat) : Int) := by omega
      have e2 : a.tdiv (g : Int) = -((n : Nat) : Int) := by
        rw [e1, Int.neg_tdiv, Int.tdiv_eq_ediv_of_nonneg (by omega), hn]
        rfl
      rw [e2, hs, decide_eq_true hneg]
      exact wrap_i64 (by omega) (by omega)
    · have e1 : a = ((a.natAbs : Nat) : Int) := by omega
      have e2 : a.tdiv (g : Int) = ((n : Nat) : Int) := by
        rw [Int.tdiv_eq_ediv_of_nonneg (by omega), e1, hn]; rfl
      rw [e2, hs, decide_eq_false hneg]
      exact wrap_i64 (by omega) (by omega)
  obtain ⟨e1, e2, e3⟩ := lowest (neg := s) (n := a.natAbs) (d := b) (g := g) hge (by omega)
  have esg : sg s a.natAbs = a := by rw [hs]; unfold sg; by_cases h : a < 0 <;> simp [h] <;> omega
  rw [esg] at e1
  rw [← hn] at e1 e2
  rw [← e1]
  have hsn : n = 0 → s = false := fun h => by
    rw [hs]
    have : a.natAbs = 0 := by
      have := Nat.div_mul_cancel hga
      rw [← hn, h] at this; omega
    exact decide_eq_false (by omega)
  have hbg : b / g ≤ 9223372036854775807 := by have := Nat.div_le_self b g; omega
  refine wpc_seq (wpc_drq ?_)
  simp only [↓stU, stD, Nat.reduceEqDiff, ↓reduceIte, reduceCtorEq, ↓stV, stW, Nat.reduceAdd, hq1, hq2]
  obtain ⟨T, hT⟩ : ∃ T : St, T = ⟨S2.h, S2.nx + 8⟩ := ⟨_, rfl⟩
  rw [← hT]
  have hST : Same S2 T := by rw [hT]; exact Same.nx S2 8
  have hS0 := hS1.trans (hS2.trans hST)
  have gT : T.h.get S.nx = some (.cells [.bool false, .nilsl, .nilsl] false 0) := by rw [hST.2 _ (by have := hS2.1; omega), hS2.2 _ (by omega)]; exact hb1
  have ltT : S.nx < T.nx := by have := hS2.1; have := hST.1; omega
  refine wpc_seq (wpc_seq (wpc_reg ?_))
  try simp only [↓stU, stD, Nat.reduceEqDiff, ↓reduceIte, reduceCtorEq, ↓stV, stW, Nat.reduceAdd]
  cases hsb : s with
  | true =>
    rw [hsb] at e1 hsn
    have hn0 : 0 < n := by rcases Nat.eq_zero_or_pos n with h | h
                           · have := hsn h; cases this
                           · exact h
    have hlt : sg true n < 0 := by show -(n : Int) < 0; omega
    have w2 : IntKind.i64.wrap (-(sg true n)) = (n : Int) := by show IntKind.i64.wrap (- -(n : Int)) = _; rw [Int.neg_neg]; exact wrap_i64 (by omega) (by omega)
    refine wpc_if (t := true) (by simp only [↓stU, stD, Nat.reduceEqDiff, ↓reduceIte, reduceCtorEq, ↓stV, stW, Nat.reduceAdd, decide_eq_true hlt]) (fun _ => ?_) (fun h => by cases h)
    refine wpc_seq (wpc_reg ?_)
    simp only [↓stU, stD, Nat.reduceEqDiff, ↓reduceIte, reduceCtorEq, ↓stV, stW, Nat.reduceAdd, un_neg_i, w2]
    refine wpo_call ?_
    try simp only [↓stU, stD, Nat.reduceEqDiff, ↓reduceIte, reduceCtorEq, ↓stV, stW, Nat.reduceAdd]
    refine wpf_mono (natOf_spec H hnle) ?_
    rintro nv S3 ⟨hnv, hS3⟩
    try simp only [↓stU, stD, Nat.reduceEqDiff, ↓reduceIte, reduceCtorEq, ↓stV, stW, Nat.reduceAdd]
    refine wpo_call ?_
    try simp only [↓stU, stD, Nat.reduceEqDiff, ↓reduceIte, reduceCtorEq, ↓stV, stW, Nat.reduceAdd]
    refine wpf_mono (natOf_spec H hbg) ?_
    rintro dv S4 ⟨hdv, hS4⟩
    have hbd : ∀ F : Fr, tmpV 22 F = nv → tmpV 24 F = dv → evQ (.build [(.bool false), .nilsl, .nilsl] [(0, 1, (.c (.bool true))), (1, 1, (.t 22)), (2, 1, (.t 24))]) F S4.h = some (.agg [.bool true, nv, dv]) := fun F h h' => by
      show osel (fillP [.bool false, .nilsl, .nilsl] [(0, 1, .bool true), (1, 1, tmpV 22 F), (2, 1, tmpV 24 F)]) (fun cs => some (AV.agg cs)) = _
      rw [h, h']
      simp only [fillP, cells_bool, nat_cells hnv, nat_cells hdv, osel_some]
      rfl
    try simp only [↓stU, stD, Nat.reduceEqDiff, ↓reduceIte, reduceCtorEq, ↓stV, stW, Nat.reduceAdd]
    rw [hbd _ (by simp only [↓stU, stD, Nat.reduceEqDiff, ↓reduceIte, reduceCtorEq, ↓stV, stW, Nat.reduceAdd]) (by simp only [↓stU, stD, Nat.reduceEqDiff, ↓reduceIte, reduceCtorEq, ↓stV, stW, Nat.reduceAdd])]
    try simp only [↓stU, stD, Nat.reduceEqDiff, ↓reduceIte, reduceCtorEq, ↓stV, stW, Nat.reduceAdd]
    have g4 : S4.h.get S.nx = some (.cells [.bool false, .nilsl, .nilsl] false 0) := by rw [hS4.2 _ (by have := hS3.1; omega), hS3.2 _ ltT]; exact gT
    refine wpo_st (b := S.nx) (by simp only [↓stU, stD, Nat.reduceEqDiff, ↓reduceIte, reduceCtorEq, ↓stV, stW, Nat.reduceAdd]) (by simp only [↓stU, stD, Nat.reduceEqDiff, ↓reduceIte, reduceCtorEq, ↓stV, stW, Nat.reduceAdd, cells_agg]; rfl) g4 rfl rfl ?_
    intro S5 hS5 hn5 hb5
    try simp only [↓stU, stD, Nat.reduceEqDiff, ↓reduceIte, reduceCtorEq, ↓stV, stW, Nat.reduceAdd]
    refine wpc_ret ?_
    simp only [↓stU, stD, Nat.reduceEqDiff, ↓reduceIte, reduceCtorEq, ↓stV, stW, Nat.reduceAdd, results_cell, ld3 hb5]
    exact ⟨ratIs_mk ((hnv.same hS4).st g4 rfl hS5 hb5) (hdv.st g4 rfl hS5 hb5) e3 e2 hsn, hS5.same (hS0.trans (hS3.trans hS4)) (Nat.le_refl _)⟩
  | false =>
    rw [hsb] at e1
    have hlt : ¬ sg false n < 0 := by show ¬ (n : Int) < 0; omega
    refine wpc_if (t := false) (by simp only [↓stU, stD, Nat.reduceEqDiff, ↓reduceIte, reduceCtorEq, ↓stV, stW, Nat.reduceAdd, decide_eq_false hlt]) (fun h => by cases h) (fun _ => wpc_skip ?_)
    try simp only [↓stU, stD, Nat.reduceEqDiff, ↓reduceIte, reduceCtorEq, ↓stV, stW, Nat.reduceAdd]
    refine wpc_seq (wpc_reg ?_)
    simp only [↓stU, stD, Nat.reduceEqDiff, ↓reduceIte, reduceCtorEq, ↓stV, stW, Nat.reduceAdd, show sg false n = (n : Int) from rfl]
    refine wpo_call ?_
    try simp only [↓stU, stD, Nat.reduceEqDiff, ↓reduceIte, reduceCtorEq, ↓stV, stW, Nat.reduceAdd]
    refine wpf_mono (natOf_spec H hnle) ?_
    rintro nv S3 ⟨hnv, hS3⟩
    try simp only [↓stU, stD, Nat.reduceEqDiff, ↓reduceIte, reduceCtorEq, ↓stV, stW, Nat.reduceAdd]
    refine wpo_call ?_
    try simp only [↓stU, stD, Nat.reduceEqDiff, ↓reduceIte, reduceCtorEq, ↓stV, stW, Nat.reduceAdd]
    refine wpf_mono (natOf_spec H hbg) ?_
    rintro dv S4 ⟨hdv, hS4⟩
    have hbd : ∀ F : Fr, tmpV 27 F = nv → tmpV 29 F = dv → evQ (.build [(.bool false), .nilsl, .nilsl] [(1, 1, (.t 27)), (2, 1, (.t 29))]) F S4.h = some (.agg [.bool false, nv, dv]) := fun F h h' => by
      show osel (fillP [.bool false, .nilsl, .nilsl] [(1, 1, tmpV 27 F), (2, 1, tmpV 29 F)]) (fun cs => some (AV.agg cs)) = _
      rw [h, h']
      simp only [fillP, nat_cells hnv, nat_cells hdv, osel_some]
      rfl
    try simp only [↓stU, stD, Nat.reduceEqDiff, ↓reduceIte, reduceCtorEq, ↓stV, stW, Nat.reduceAdd]
    rw [hbd _ (by simp only [↓stU, stD, Nat.reduceEqDiff, ↓reduceIte, reduceCtorEq, ↓stV, stW, Nat.reduceAdd]) (by simp only [↓stU, stD, Nat.reduceEqDiff, ↓reduceIte, reduceCtorEq, ↓stV, stW, Nat.reduceAdd])]
    try simp only [↓stU, stD, Nat.reduceEqDiff, ↓reduceIte, reduceCtorEq, ↓stV, stW, Nat.reduceAdd]
    have g4 : S4.h.get S.nx = some (.cells [.bool false, .nilsl, .nilsl] false 0) := by rw [hS4.2 _ (by have := hS3.1; omega), hS3.2 _ ltT]; exact gT
    refine wpo_st (b := S.nx) (by simp only [↓stU, stD, Nat.reduceEqDiff, ↓reduceIte, reduceCtorEq, ↓stV, stW, Nat.reduceAdd]) (by simp only [↓stU, stD, Nat.reduceEqDiff, ↓reduceIte, reduceCtorEq, ↓stV, stW, Nat.reduceAdd, cells_agg]; rfl) g4 rfl rfl ?_
    intro S5 hS5 hn5 hb5
    try simp only [↓stU, stD, Nat.reduceEqDiff, ↓reduceIte, reduceCtorEq, ↓stV, stW, Nat.reduceAdd]
    refine wpc_ret ?_
    simp only [↓stU, stD, Nat.reduceEqDiff, ↓reduceIte, reduceCtorEq, ↓stV, stW, Nat.reduceAdd, results_cell, ld3 hb5]
    exact ⟨ratIs_mk ((hnv.same hS4).st g4 rfl hS5 hb5) (hdv.st g4 rfl hS5 hb5) e3 e2 (fun _ => rfl), hS5.same (hS0.trans (hS3.trans hS4)) (Nat.le_refl _)⟩
end Go.Ev.Gl

namespace Go.Ev.Gl
variable {fns : T AFn}

theorem of_spec' {S : St} {a : Int} {b : Nat} (H : Has fns) (ha : -9223372036854775807 ≤ a ∧ a ≤ 9223372036854775807) (hb0 : 0 < b) (hb : b ≤ 9223372036854775807) : wpf fns (.fn 19 [] []) [.int .i64 a, .int .i64 (b : Int)] S fun r S' => RatIs S' r (mkRat a b) ∧ Same S S' := by
  refine wpf_fn H.f19 (by simp) ?_
  simp only [↓stU, stD, Nat.reduceEqDiff, ↓reduceIte, reduceCtorEq]
  refine wpc_seq (wpc_reg ?_)
  refine wpo_alloc ?_
  intro S1 hS1 hn1 hb1
  simp only [↓stU, stD, Nat.reduceEqDiff, ↓reduceIte, reduceCtorEq]
  refine wpc_seq (wpc_reg ?_)
  simp only [↓stU, stD, Nat.reduceEqDiff, ↓reduceIte, reduceCtorEq]
  refine wpo_call ?_
  simp only [↓stU, stD, Nat.reduceEqDiff, ↓reduceIte, reduceCtorEq]
  refine wpf_mono (ratOf_spec H ha hb0 hb) ?_
  rintro v S2 ⟨hv, hS2⟩
  obtain ⟨c0, c1, c2, rfl⟩ := hv.cells
  have g2 : S2.h.get S.nx = some (.cells [.bool false, .nilsl, .nilsl] false 0) := by rw [hS2.2 _ (by omega)]; exact hb1
  refine wpo_st (b := S.nx) (by simp only [↓stU, stD, Nat.reduceEqDiff, ↓reduceIte, reduceCtorEq]) (by simp only [↓stU, stD, Nat.reduceEqDiff, ↓reduceIte, reduceCtorEq, cells_agg]; rfl) g2 rfl rfl ?_
  intro S3 hS3 hn3 hb3
  simp only [↓stU, stD, Nat.reduceEqDiff, ↓reduceIte, reduceCtorEq]
  refine wpc_ret ?_
  simp only [↓stU, stD, Nat.reduceEqDiff, ↓reduceIte, reduceCtorEq, results_cell, ld3 hb3]
  exact ⟨hv.st g2 rfl hS3 hb3, hS3.same (hS1.trans hS2) (Nat.le_refl _)⟩

theorem sum_spec {S : St} {a b : AV} {p q : Rat} (H : Has fns) (hL : Laid S) (ha : RatIs S a p) (hb : RatIs S b q) (hp : InBound p) (hq : InBound q) (hin : InBound (p + q)) : wpf fns (.fn 20 [] []) [a, b] S fun r S' => RatIs S' r (p + q) ∧ Same S S' := by
  obtain ⟨a0, a1, a2, rfl⟩ := ha.cells
  obtain ⟨b0, b1, b2, rfl⟩ := hb.cells
  refine wpf_fn H.f20 (by simp) ?_
  simp only [↓stU, stD, Nat.reduceEqDiff, ↓reduceIte, reduceCtorEq]
  refine wpc_seq (wpc_reg ?_)
  refine wpo_box (by simp only [↓stU, stD, Nat.reduceEqDiff, ↓reduceIte, reduceCtorEq, cells_agg]; rfl) ?_
  intro S1 hS1 hn1 hc1
  refine wpo_box (by simp only [↓stU, stD, Nat.reduceEqDiff, ↓reduceIte, reduceCtorEq, cells_agg]; rfl) ?_
  intro S2 hS2 hn2 hc2
  refine wpo_alloc ?_
  intro S3 hS3 hn3 hc3
  simp only [↓stU, stD, Nat.reduceEqDiff, ↓reduceIte, reduceCtorEq]
  have g1 : S3.h.get S.nx = some (.cells [a0, a1, a2] false 0) := by rw [hS3.2 _ (by omega), hS2.2 _ (by omega)]; exact hc1
  have g2 : S3.h.get S1.nx = some (.cells [b0, b1, b2] false 0) := by rw [hS3.2 _ (by omega)]; exact hc2
  have hS := hS1.trans (hS2.trans hS3)
  refine wpc_seq (wpc_reg ?_)
  simp only [↓stU, stD, Nat.reduceEqDiff, ↓reduceIte, reduceCtorEq, ld3 g1, ld3 g2]
  refine wpo_call ?_
  simp only [↓stU, stD, Nat.reduceEqDiff, ↓reduceIte, reduceCtorEq]
  refine wpf_mono (radd_spec H (hL.same hS) (ha.same hS) (hb.same hS) hp hq hin) ?_
  rintro _ S4 ⟨v, rfl, hv, hS4⟩
  obtain ⟨c0, c1, c2, rfl⟩ := hv.cells
  simp only [↓stU, stD, Nat.reduceEqDiff, ↓reduceIte, reduceCtorEq, ex0, ex1]
  refine wpo_alloc ?_
  intro S5 hS5 hn5 hc5
  refine wpo_st (b := S4.nx) (by simp only [↓stU, stD, Nat.reduceEqDiff, ↓reduceIte, reduceCtorEq]) (by simp only [↓stU, stD, Nat.reduceEqDiff, ↓reduceIte, reduceCtorEq, cells_agg]; rfl) hc5 rfl rfl ?_
  intro S6 hS6 hn6 hb6
  simp only [↓stU, stD, Nat.reduceEqDiff, ↓reduceIte, reduceCtorEq]
  have h46 : Same S4 S6 := hS6.same hS5 (Nat.le_refl _)
  have g6 : S6.h.get S2.nx = some (.cells [.bool false, .nilsl, .nilsl] false 0) := by rw [h46.2 _ (by have := hS4.1; omega), hS4.2 _ (by omega)]; exact hc3
  refine wpc_seq (wpc_reg ?_)
  simp only [↓stU, stD, Nat.reduceEqDiff, ↓reduceIte, reduceCtorEq, ld3 hb6]
  refine wpo_st (b := S2.nx) (by simp only [↓stU, stD, Nat.reduceEqDiff, ↓reduceIte, reduceCtorEq]) (by simp only [↓stU, stD, Nat.reduceEqDiff, ↓reduceIte, reduceCtorEq, cells_agg]; rfl) g6 rfl rfl ?_
  intro S7 hS7 hn7 hb7
  simp only [↓stU, stD, Nat.reduceEqDiff, ↓reduceIte, reduceCtorEq]
  refine wpc_ret ?_
  simp only [↓stU, stD, Nat.reduceEqDiff, ↓reduceIte, reduceCtorEq, results_cell, ld3 hb7]
  exact ⟨(hv.same h46).st g6 rfl hS7 hb7, hS7.same (hS.trans (hS4.trans h46)) (by omega)⟩

theorem Bnd.inBound {k : Nat} {q : Rat} (h : Bnd k q) (hk : k ≤ 1024) : InBound q := by unfold InBound; exact Bnd.mono (j := 1024) h hk

end Go.Ev.Gl

namespace Go.Ev.Gl
variable {fns : T AFn}

/-! ## Comparing -/
def cmpR (p q : Rat) : Int := if p < q then -1 else if p = q then 0 else 1
theorem num_lt (p q : Rat) : p < q ↔ p.num * q.den < q.num * p.den := Rat.lt_iff p q
theorem num_eq (p q : Rat) : p = q ↔ p.num * q.den = q.num * p.den := by
  constructor
  · rintro rfl; rfl
  · intro h
    have h1 : ¬ p < q := fun h' => by have := (num_lt p q).1 h'; omega
    have h2 : ¬ q < p := fun h' => by have := (num_lt q p).1 h'; omega
    exact Rat.le_antisymm (Rat.not_lt.1 h2) (Rat.not_lt.1 h1)
theorem den_pos (q : Rat) : (0 : Int) < q.den := by have := q.den_nz; omega

theorem cmpR_lt {p q : Rat} (h : sgn p < sgn q) : cmpR p q = -1 := by
  unfold cmpR
  rw [if_pos]
  rw [num_lt]
  have hp := den_pos p
  have hq := den_pos q
  unfold sgn at h
  rcases Int.lt_trichotomy p.num 0 with h1 | h1 | h1
  · have a := Int.mul_neg_of_neg_of_pos h1 hq
    by_cases h2 : q.num < 0
    · rw [if_neg (by omega), if_pos h1, if_neg (by omega), if_pos h2] at h; omega
    · have := Int.mul_nonneg (show 0 ≤ q.num by omega) (Int.le_of_lt hp); omega
  · rw [h1, Int.zero_mul]
    rw [if_pos h1] at h
    split at h
    · omega
    · split at h
      · omega
      · exact Int.mul_pos (by omega) hp
  · exfalso
    rw [if_neg (by omega), if_neg (by omega)] at h
    split at h
    · omega
    · split at h <;> omega
theorem cmpR_swap (p q : Rat) : cmpR q p = -cmpR p q := by
  unfold cmpR
  rcases Int.lt_trichotomy (p.num * q.den) (q.num * p.den) with h | h | h
  · rw [if_neg (fun h' => by have := (num_lt q p).1 h'; omega), if_neg (fun h' => by have := (num_eq q p).1 h'; omega), if_pos ((num_lt p q).2 h)]; rfl
  · have e := (num_eq p q).2 h
    subst e
    rw [if_neg (fun h' => by have := (num_lt p p).1 h'; omega), if_pos rfl]; rfl
  · rw [if_pos ((num_lt q p).2 h), if_neg (fun h' => by have := (num_lt p q).1 h'; omega), if_neg (fun h' => by have := (num_eq p q).1 h'; omega)]
theorem cmpR_gt {p q : Rat} (h : sgn q < sgn p) : cmpR p q = 1 := by rw [cmpR_swap q p, cmpR_lt h]; rfl
/-- where the signs agree: the products of the sizes -/
theorem cmpR_eq {p q : Rat} (h : sgn p = sgn q) : cmpR p q = (sgn p - 1) * cmpI (p.num.natAbs * q.den) (q.num.natAbs * p.den) := by
  have hp := den_pos p
  have hq := den_pos q
  have e1 : ((p.num.natAbs * q.den : Nat) : Int) = (p.num.natAbs : Int) * q.den := by rw [Int.natCast_mul]
  have e2 : ((q.num.natAbs * p.den : Nat) : Int) = (q.num.natAbs : Int) * p.den := by rw [Int.natCast_mul]
  have l := num_lt p q
  have e := num_eq p q
  rcases Int.lt_trichotomy p.num 0 with h1 | h1 | h1
  · have hs : sgn p = 0 := by unfold sgn; rw [if_neg (by omega), if_pos h1]
    have h2 : q.num < 0 := by
      rw [hs] at h; unfold sgn at h
      split at h
      · omega
      · split at h
        · assumption
        · omega
    rw [show (p.num.natAbs : Int) = -p.num by omega, Int.neg_mul] at e1
    rw [show (q.num.natAbs : Int) = -q.num by omega, Int.neg_mul] at e2
    rw [hs]
    unfold cmpR cmpI
    by_cases c1 : p < q
    · have := l.1 c1
      rw [if_pos c1, if_neg (by omega), if_neg (by omega)]; rfl
    · have n1 : ¬ p.num * q.den < q.num * p.den := fun x => c1 (l.2 x)
      by_cases c2 : p = q
      · have := e.1 c2
        rw [if_neg c1, if_pos c2, if_neg (by omega), if_pos (by omega)]; rfl
      · have n2 : ¬ p.num * q.den = q.num * p.den := fun x => c2 (e.2 x)
        rw [if_neg c1, if_neg c2, if_pos (by omega)]; rfl
  · have hs : sgn p = 1 := by unfold sgn; rw [if_pos h1]
    have h2 : q.num = 0 := by
      rw [hs] at h; unfold sgn at h
      split at h
      · assumption
      · split at h <;> omega
    rw [hs]
    have hpq : p = q := e.2 (by rw [h1, h2, Int.zero_mul, Int.zero_mul])
    unfold cmpR
    rw [if_neg (fun x => by have := l.1 x; rw [h1, h2, Int.zero_mul, Int.zero_mul] at this; omega), if_pos hpq]
    simp
  · have hs : sgn p = 2 := by unfold sgn; rw [if_neg (by omega), if_neg (by omega)]
    have h2 : 0 < q.num := by
      rw [hs] at h; unfold sgn at h
      split at h
      · omega
      · split at h
        · omega
        · omega
    rw [show (p.num.natAbs : Int) = p.num by omega] at e1
    rw [show (q.num.natAbs : Int) = q.num by omega] at e2
    rw [hs]
    unfold cmpR cmpI
    by_cases c1 : p < q
    · have := l.1 c1
      rw [if_pos c1, if_pos (by omega)]; rfl
    · have n1 : ¬ p.num * q.den < q.num * p.den := fun x => c1 (l.2 x)
      by_cases c2 : p = q
      · have := e.1 c2
        rw [if_neg c1, if_pos c2, if_neg (by omega), if_pos (by omega)]; rfl
      · have n2 : ¬ p.num * q.den = q.num * p.den := fun x => c2 (e.2 x)
        rw [if_neg c1, if_neg c2, if_neg (by omega), if_neg (by omega)]; rfl

theorem bin_muli (e : EqT) {a b : Int} (h1 : -9223372036854775808 ≤ a * b) (h2 : a * b ≤ 9223372036854775807) : binV .mul e (.int .i64 a) (.int .i64 b) = some (.int .i64 (a * b)) := by
  rw [bin_mul, wrap_i64 h1 h2]
theorem sgn_cases (q : Rat) : sgn q = 0 ∨ sgn q = 1 ∨ sgn q = 2 := by unfold sgn; split <;> (try split) <;> simp
theorem cmpI_cases (x y : Nat) : cmpI x y = -1 ∨ cmpI x y = 0 ∨ cmpI x y = 1 := by unfold cmpI; split <;> (try split) <;> simp
theorem val_ia {k : Nat} (hk : k < 3) : iaddrV (.arr 3 1) (.ptr 0 0) k = some (.ptr 0 k) := by
  show bsel (Nat.blt k 3) (some (AV.ptr 0 (0 + k * 1))) none = _
  rw [show Nat.blt k 3 = true from Nat.ble_eq_true_of_le hk, bsel_true]
  simp
theorem val_ld {S : St} (hL : Laid S) {k : Nat} (hk : k < 3) : qLdV (.ptr 0 k) false 1 S.h = some (.int .i64 ((k : Int) - 1)) := by
  simp only [qLdV, loadV, bsel_false, load1, cellsAt, hL.2.1, osel_some, cellsOfB, nth_eq, tabV]
  rcases (by omega : k = 0 ∨ k = 1 ∨ k = 2) with rfl | rfl | rfl <;> rfl

theorem rcmp_spec {S : St} {a b : AV} {p q : Rat} (H : Has fns) (hL : Laid S) (ha : RatIs S a p) (hb : RatIs S b q) (hp : InBound p) (hq : InBound q) : wpf fns (.fn 18 [] []) [a, b] S fun r S' => r = .tup [.int .i64 (cmpR p q), .int .i64 0] ∧ Same S S' := by
  obtain ⟨nv, dv, rfl, n1, n2⟩ := id ha
  obtain ⟨mv, ev, rfl, m1, m2⟩ := id hb
  refine wpf_fn H.f18 (by simp) ?_
  simp only [↓stU, stD, Nat.reduceEqDiff, ↓reduceIte, reduceCtorEq]
  refine wpc_seq (wpc_reg ?_)
  refine wpo_box (by simp only [↓stU, stD, Nat.reduceEqDiff, ↓reduceIte, reduceCtorEq, cells_agg]; rfl) ?_
  intro S1 hS1 hn1 hc1
  refine wpo_box (by simp only [↓stU, stD, Nat.reduceEqDiff, ↓reduceIte, reduceCtorEq, cells_agg]; rfl) ?_
  intro S2 hS2 hn2 hc2
  simp only [↓stU, stD, Nat.reduceEqDiff, ↓reduceIte, reduceCtorEq]
  have g1 : S2.h.get S.nx = some (.cells [.bool (decide (p.num < 0)), nv, dv] false 0) := by rw [hS2.2 _ (by omega)]; exact hc1
  have hS := hS1.trans hS2
  refine wpc_seq (wpc_seq (wpc_reg ?_))
  simp only [↓stU, stD, Nat.reduceEqDiff, ↓reduceIte, reduceCtorEq, ld3 g1, ld3 hc2]
  refine wpo_call ?_
  simp only [↓stU, stD, Nat.reduceEqDiff, ↓reduceIte, reduceCtorEq]
  refine wpf_mono (both_ok H (hL.same hS) (ha.same hS) (hb.same hS) hp hq) ?_
  rintro _ S3 ⟨rfl, hS3⟩
  try simp only [↓stU, stD, Nat.reduceEqDiff, ↓reduceIte, reduceCtorEq]
  refine wpc_seq (wpc_reg ?_)
  simp only [↓stU, stD, Nat.reduceEqDiff, ↓reduceIte, reduceCtorEq]
  refine wpc_if (t := false) (by simp only [↓stU, stD, Nat.reduceEqDiff, ↓reduceIte, reduceCtorEq]; rfl) (fun h => by cases h) (fun _ => wpc_skip ?_)
  simp only [↓stU, stD, Nat.reduceEqDiff, ↓reduceIte, reduceCtorEq]
  have k1 : S3.h.get S.nx = some (.cells [.bool (decide (p.num < 0)), nv, dv] false 0) := by rw [hS3.2 _ (by omega)]; exact g1
  have k2 : S3.h.get S1.nx = some (.cells [.bool (decide (q.num < 0)), mv, ev] false 0) := by rw [hS3.2 _ (by omega)]; exact hc2
  have l3 := hS3.1
  have t1 : S.nx < S3.nx := by omega
  have t2 : S1.nx < S3.nx := by omega
  have e3 := hS.trans hS3
  refine wpc_seq (wpc_mono (Q := fun o A' S' => o = .normal ∧ A'.inr = false ∧ Same S3 S' ∧ tmpV 2 A'.F = .ptr S.nx 0 ∧ tmpV 3 A'.F = .ptr S1.nx 0 ∧ tmpV 7 A'.F = .int .i64 (sgn p) ∧ tmpV 8 A'.F = .int .i64 (sgn q)) ?_ ?_)
  · refine wpc_drd1 (fun _ => False) ?_
    intro S4 s4
    simp only [↓stU, stD, Nat.reduceEqDiff, ↓reduceIte, reduceCtorEq, ↓stV, stW, Nat.reduceAdd, ld3 k1, ld3 k2, t1, t2, not_false_eq_true, self_rat ha, self_rat hb]
    refine runD_call0 rfl ?_
    try simp only [↓stU, stD, Nat.reduceEqDiff, ↓reduceIte, reduceCtorEq, ↓stV, stW, Nat.reduceAdd]
    refine wpf_mono (signOf_spec H (ha.same (e3.trans s4))) ?_
    rintro _ S5 ⟨rfl, s5⟩
    refine ⟨s5, ?_⟩
    simp only [↓stU, stD, Nat.reduceEqDiff, ↓reduceIte, reduceCtorEq, ↓stV, stW, Nat.reduceAdd, ld3 k1, ld3 k2, t1, t2, not_false_eq_true, self_rat ha, self_rat hb]
    refine runD_call0 rfl ?_
    try simp only [↓stU, stD, Nat.reduceEqDiff, ↓reduceIte, reduceCtorEq, ↓stV, stW, Nat.reduceAdd]
    refine wpf_mono (signOf_spec H (hb.same (e3.trans (s4.trans s5)))) ?_
    rintro _ S6 ⟨rfl, s6⟩
    refine ⟨s6, ?_⟩
    simp only [↓stU, stD, Nat.reduceEqDiff, ↓reduceIte, reduceCtorEq, ↓stV, stW, Nat.reduceAdd]
    exact s4.trans (s5.trans s6)
  rintro o ⟨F, inr⟩ S6 ⟨rfl, q0, s6, p2, p3, p7, p8⟩
  simp only at q0 p2 p3 p7 p8
  subst q0
  try simp only [↓stU, stD, Nat.reduceEqDiff, ↓reduceIte, reduceCtorEq]
  have e6 := e3.trans s6
  have hL6 := hL.same e6
  have z0 := val_ld hL6 (k := 0) (by decide)
  have z2 := val_ld hL6 (k := 2) (by decide)
  have i0 := val_ia (k := 0) (by decide)
  have i2 := val_ia (k := 2) (by decide)
  have c0 : natOf (.int .i64 0) = some 0 := rfl
  have c2 : natOf (.int .i64 2) = some 2 := rfl
  refine wpc_seq (wpc_block (wpc_seq (wpc_reg ?_)))
  simp only [↓stU, stD, Nat.reduceEqDiff, ↓reduceIte, reduceCtorEq, p7, p8]
  by_cases h1 : sgn p < sgn q
  · refine wpc_if (t := true) (by simp only [↓stU, stD, Nat.reduceEqDiff, ↓reduceIte, reduceCtorEq, decide_eq_true h1]) (fun _ => ?_) (fun h => by cases h)
    refine wpc_seq (wpc_reg ?_)
    simp only [↓stU, stD, Nat.reduceEqDiff, ↓reduceIte, reduceCtorEq, c0, i0, z0]
    refine wpc_ret ?_
    simp only [↓stU, stD, Nat.reduceEqDiff, ↓reduceIte, reduceCtorEq]
    rw [cmpR_lt h1]
    exact ⟨rfl, e6⟩
  refine wpc_if (t := false) (by simp only [↓stU, stD, Nat.reduceEqDiff, ↓reduceIte, reduceCtorEq, decide_eq_false h1]) (fun h => by cases h) (fun _ => ?_)
  refine wpc_seq (wpc_reg ?_)
  simp only [↓stU, stD, Nat.reduceEqDiff, ↓reduceIte, reduceCtorEq, p7, p8]
  by_cases h2 : sgn q < sgn p
  · refine wpc_if (t := true) (by simp only [↓stU, stD, Nat.reduceEqDiff, ↓reduceIte, reduceCtorEq, decide_eq_true h2]) (fun _ => ?_) (fun h => by cases h)
    refine wpc_seq (wpc_reg ?_)
    simp only [↓stU, stD, Nat.reduceEqDiff, ↓reduceIte, reduceCtorEq, c2, i2, z2]
    refine wpc_ret ?_
    simp only [↓stU, stD, Nat.reduceEqDiff, ↓reduceIte, reduceCtorEq]
    rw [cmpR_gt h2]
    exact ⟨rfl, e6⟩
  refine wpc_if (t := false) (by simp only [↓stU, stD, Nat.reduceEqDiff, ↓reduceIte, reduceCtorEq, decide_eq_false h2]) (fun h => by cases h) (fun _ => wpc_skip ?_)
  simp only [↓stU, stD, Nat.reduceEqDiff, ↓reduceIte, reduceCtorEq]
  have h3 : sgn p = sgn q := by omega
  rw [cmpR_eq h3]
  obtain ⟨kk, hkk, hk3⟩ : ∃ kk : Nat, sgn p = kk ∧ kk < 3 := by
    rcases sgn_cases p with h | h | h
    · exact ⟨0, h, by decide⟩
    · exact ⟨1, h, by decide⟩
    · exact ⟨2, h, by decide⟩
  rw [hkk] at p7 ⊢
  have zk := val_ld hL6 hk3
  have ik := val_ia hk3
  have hk1 : S6.h.get S.nx = some (.cells [.bool (decide (p.num < 0)), nv, dv] false 0) := by rw [s6.2 _ (by omega)]; exact k1
  have hk2 : S6.h.get S1.nx = some (.cells [.bool (decide (q.num < 0)), mv, ev] false 0) := by rw [s6.2 _ (by omega)]; exact k2
  have l6 := s6.1
  have u1 : S.nx < S6.nx := by omega
  have u2 : S1.nx < S6.nx := by omega
  have u0 : 0 < S6.nx := by have := hL6.2.2; omega
  refine wpc_seq (wpc_mono (Q := fun o A' S' => o = .normal ∧ Same S6 S' ∧ tmpV 4 A'.F = .int .i64 (((kk : Int) - 1) * cmpI (p.num.natAbs * q.den) (q.num.natAbs * p.den)) ∧ tmpV 5 A'.F = .int .i64 0) ?_ ?_)
  · refine wpc_drd1 (fun _ => False) ?_
    intro S7 s7
    have e7 := e6.trans s7
    simp only [↓stU, stD, Nat.reduceEqDiff, ↓reduceIte, reduceCtorEq, ↓stV, stW, Nat.reduceAdd, p2, p3, p7, evQ_faddr, isLoad_faddr, faddr_ptr, ik, zk, ld3_1 hk1, ld3_1 hk2, ld3_2 hk1, ld3_2 hk2, u0, u1, u2, not_false_eq_true, nat_self n1, nat_self n2, nat_self m1, nat_self m2]
    refine runD_call0 rfl ?_
    try simp only [↓stU, stD, Nat.reduceEqDiff, ↓reduceIte, reduceCtorEq, ↓stV, stW, Nat.reduceAdd]
    refine wpf_mono (mul_spec H.f103 H.f64 (n1.same e7) (m2.same e7) hp.half.fits.1 hq.half.fits.2) ?_
    rintro x S8 ⟨hx, s8⟩
    refine ⟨s8, ?_⟩
    simp only [↓stU, stD, Nat.reduceEqDiff, ↓reduceIte, reduceCtorEq, ↓stV, stW, Nat.reduceAdd, p2, p3, p7, evQ_faddr, isLoad_faddr, faddr_ptr, ld3_1 hk1, ld3_1 hk2, ld3_2 hk1, ld3_2 hk2, u0, u1, u2, not_false_eq_true, nat_self n1, nat_self n2, nat_self m1, nat_self m2]
    refine runD_call0 rfl ?_
    try simp only [↓stU, stD, Nat.reduceEqDiff, ↓reduceIte, reduceCtorEq, ↓stV, stW, Nat.reduceAdd]
    have e8 := e7.trans s8
    refine wpf_mono (mul_spec H.f103 H.f64 (m1.same e8) (n2.same e8) hq.half.fits.1 hp.half.fits.2) ?_
    rintro y S9 ⟨hy, s9⟩
    refine ⟨s9, ?_⟩
    try simp only [↓stU, stD, Nat.reduceEqDiff, ↓reduceIte, reduceCtorEq, ↓stV, stW, Nat.reduceAdd]
    refine runD_call0 rfl ?_
    try simp only [↓stU, stD, Nat.reduceEqDiff, ↓reduceIte, reduceCtorEq, ↓stV, stW, Nat.reduceAdd]
    have hfit : Fits (p.num.natAbs * q.den) := Fits.of (mul_lt_pow hp.half.1 hq.half.2) (by decide)
    refine wpf_mono (cmp_spec H.f63 (hx.same s9) hy hfit) ?_
    rintro _ S10 ⟨rfl, s10⟩
    refine ⟨s10, ?_⟩
    have hmul : ((kk : Int) - 1) * cmpI (p.num.natAbs * q.den) (q.num.natAbs * p.den) = -1 ∨ ((kk : Int) - 1) * cmpI (p.num.natAbs * q.den) (q.num.natAbs * p.den) = 0 ∨ ((kk : Int) - 1) * cmpI (p.num.natAbs * q.den) (q.num.natAbs * p.den) = 1 := by
      rcases cmpI_cases (p.num.natAbs * q.den) (q.num.natAbs * p.den) with h | h | h <;> rw [h] <;> omega
    rw [bin_muli _ (by omega) (by omega)]
    simp only [↓stU, stD, Nat.reduceEqDiff, ↓reduceIte, reduceCtorEq, ↓stV, stW, Nat.reduceAdd]
    exact s7.trans (s8.trans (s9.trans s10))
  rintro o ⟨F, inr⟩ S10 ⟨rfl, s10, p4, p5⟩
  simp only at p4 p5
  try simp only [↓stU, stD, Nat.reduceEqDiff, ↓reduceIte, reduceCtorEq]
  refine wpc_ret ?_
  simp only [↓stU, stD, Nat.reduceEqDiff, ↓reduceIte, reduceCtorEq, p4, p5]
  exact e6.trans s10
end Go.Ev.Gl

namespace Go.Ev.Gl
variable {fns : T AFn}

/-! ## The whole numbers below and above -/
end Go.Ev.Gl

namespace Go.Ev.Gl
variable {fns : T AFn}

/-! ## Plain facts on comparing -/
theorem cmpR_eq0 {p q : Rat} : cmpR p q = 0 ↔ p = q := by
  unfold cmpR
  split
  · rename_i h; constructor
    · intro h'; omega
    · rintro rfl; exact absurd h (Rat.lt_irrefl)
  · split <;> simp_all
theorem num_cast (z : Int) : ((z : Rat)).num = z := rfl
theorem runD_stn {W : Nat → Prop} {h0 : T AB} {base : Nat} {m i : Nat} {l : List AO} {F : Fr} {S : St} {last : Option Nat} {Q : Fr → St → List Pend → Prop} {n j id : Nat} {x v : Opd} {cs cs' : List AV} (ht : Nat.testBit m j = true) (h : inMask last m = true) (hx : x.val F = .ptr id 0) (hv : (v.val F).cells = some cs') (h1 : cs.length = n) (h2 : cs'.length = n) (hid : base ≤ id)
    (hr : ∀ S1, SameBut id S S1 → S1.nx = S.nx → S1.h.get id = some (.cells cs' false 0) → runD fns W h0 base l (i + 1) F S1 [] (some i) Q) : runD fns W h0 base (⟨none, .x (.st n x v), none, m⟩ :: l) i F S [⟨j, id, .cells cs false 0⟩] last Q := by
  have hb : (⟨S.h.set id (some (.cells cs false 0)), S.nx⟩ : St).h.get id = some (.cells cs false 0) := by simp only; rw [T.get_set, if_pos rfl]
  refine runD_st (S1 := ⟨(S.h.set id (some (.cells cs false 0))).set id (some (.cells cs' false 0)), S.nx⟩) h ?_ ⟨Nat.le_refl _, fun c hc hw => ?_⟩ ?_
  · rw [flush_one ht, hv, osel_some, hx]; exact xst_all hb h1 h2
  · simp only
    rw [flush_one ht, T.get_set, if_neg (by omega)]
  · rw [flush_one ht]
    refine hr _ ⟨Nat.le_refl _, fun c hc hne => ?_⟩ rfl ?_
    · simp only
      rw [T.get_set, if_neg hne, T.get_set, if_neg hne]
    · simp only
      rw [T.get_set, if_pos rfl]


end Go.Ev.Gl

namespace Go.Ev.Gl

/-! ## The simplest number between two: plain facts. n / d lies between a / b and c / e, and each that lies there has no smaller parts -/
def BestN (a b c e n d : Nat) : Prop := a * d ≤ n * b ∧ n * e ≤ c * d ∧ 0 < d ∧ Nat.Coprime n d ∧ ∀ x y, 0 < y → a * y ≤ x * b → x * e ≤ c * y → d ≤ y ∧ n ≤ x

def up (a b : Nat) : Nat := if a % b = 0 then a / b else a / b + 1
theorem up_ge {a b : Nat} (hb : 0 < b) : a ≤ up a b * b := by
  have h := Nat.div_add_mod a b
  unfold up
  split
  · rw [Nat.mul_comm]; omega
  · rename_i hr
    have := Nat.mod_lt a hb
    rw [Nat.add_mul, Nat.mul_comm]; omega
theorem up_min {a b x : Nat} (hb : 0 < b) (h : a ≤ x * b) : up a b ≤ x := by
  have h1 := Nat.div_add_mod a b
  have h2 : a / b ≤ x := by
    have := Nat.div_le_div_right (c := b) h
    rwa [Nat.mul_div_cancel _ hb] at this
  unfold up
  split
  · exact h2
  · rename_i hr
    rcases Nat.lt_or_eq_of_le h2 with h3 | h3
    · exact h3
    · exfalso
      rw [← h3, Nat.mul_comm] at h
      omega

theorem best_whole {a b c e : Nat} (hb : 0 < b) (h : up a b * e ≤ c) : BestN a b c e (up a b) 1 := by
  refine ⟨by rw [Nat.mul_one]; exact up_ge hb, by rw [Nat.mul_one]; exact h, Nat.one_pos, Nat.coprime_one_right _, fun x y hy h1 _ => ⟨hy, up_min hb ?_⟩⟩
  exact Nat.le_trans (Nat.le_mul_of_pos_right a hy) h1

theorem best_step {a b c e n d q r f : Nat} (ha : a = b * q + r) (hr : 0 < r) (hc : c = e * q + f) (he : 0 < e) (hb : 0 < b) (h : BestN e f b r n d) : BestN a b c e (q * n + d) n ∧ 0 < n := by
  obtain ⟨h1, h2, h3, h4, h5⟩ := h
  have hn : 0 < n := by
    rcases Nat.eq_zero_or_pos n with rfl | hn
    · rw [Nat.zero_mul] at h1
      have := Nat.mul_pos he h3
      omega
    · exact hn
  refine ⟨⟨?_, ?_, hn, ?_, fun x y hy k1 k2 => ?_⟩, hn⟩
  · subst ha
    rw [Nat.add_mul, Nat.add_mul, Nat.mul_comm b q, Nat.mul_right_comm q b n, Nat.mul_comm r n, Nat.mul_comm d b]
    omega
  · subst hc
    rw [Nat.add_mul, Nat.add_mul, Nat.mul_comm e q, Nat.mul_right_comm q e n, Nat.mul_comm d e, Nat.mul_comm f n]
    omega
  · unfold Nat.Coprime at *
    rw [Nat.gcd_comm, Nat.gcd_mul_right_add_right, h4]
  · subst ha
    subst hc
    have e1 : (b * q + r) * y = b * (q * y) + r * y := by rw [Nat.add_mul, Nat.mul_assoc]
    have e2 : (e * q + f) * y = e * (q * y) + f * y := by rw [Nat.add_mul, Nat.mul_assoc]
    rw [e1, Nat.mul_comm x b] at k1
    rw [e2, Nat.mul_comm x e] at k2
    have hry := Nat.mul_pos hr hy
    have hx : q * y < x := by
      apply Classical.byContradiction
      intro hx
      have := Nat.mul_le_mul_left b (Nat.le_of_not_lt hx)
      omega
    obtain ⟨z, rfl⟩ : ∃ z, x = q * y + z := ⟨x - q * y, by omega⟩
    rw [Nat.mul_add] at k1 k2
    have hz : 0 < z := by omega
    have := h5 y z hz (by rw [Nat.mul_comm y f]; omega) (by rw [Nat.mul_comm y r]; omega)
    refine ⟨this.2, ?_⟩
    have := Nat.mul_le_mul_left q this.2
    omega
end Go.Ev.Gl

namespace Go.Ev.Gl
variable {fns : T AFn}

/-! ## The simplest number between two positive numbers -/
theorem evQ_b2 {z0 z1 z2 : AV} {y z : Opd} {F : Fr} {h : T AB} (h2 : (y.val F).cells = some [y.val F]) (h3 : (z.val F).cells = some [z.val F]) : evQ (.build [z0, z1, z2] [(1, 1, y), (2, 1, z)]) F h = some (.agg [z0, y.val F, z.val F]) := by
  show (osel (fillP [z0, z1, z2] (partsV F [(1, 1, y), (2, 1, z)])) fun cs => some (AV.agg cs)) = _
  simp only [partsV, fillP, h2, h3, osel_some]
  rfl
theorem ld6 {h : T AB} {b i j : Nat} {cs : List AV} {o : Bool} {s : Nat} {x : AV} (hb : h.get b = some (.cells cs o s)) (hi : cs[0 + i + j]? = some x) : qLdV (.ptr b (0 + i + j)) false 1 h = some x := by
  simp only [qLdV, loadV, bsel_false, load1, cellsAt, hb, osel_some, cellsOfB, nth_eq]; exact hi

theorem best_le {a b c e n d : Nat} (h : BestN a b c e n d) (hb : 0 < b) (hle : a * e ≤ c * b) : d ≤ b ∧ n ≤ a := h.2.2.2.2 a b hb (Nat.le_refl _) hle

theorem pow_step {x k : Nat} (h : x < B ^ k) : x + 1 < B ^ (k + 1) := by
  have h2 : B ^ k < B ^ (k + 1) := Nat.pow_lt_pow_right (by decide) (by omega)
  omega

set_option maxHeartbeats 4000000 in
theorem simple_spec (H : Has fns) : ∀ (N : Nat) {S : St} {s t : Bool} {av bv cv ev : AV} {a b c e : Nat}, b + e ≤ N → NatIs S av a → NatIs S bv b → NatIs S cv c → NatIs S ev e → a < B ^ 1024 → b < B ^ 1024 → c < B ^ 1024 → e < B ^ 1024 → 0 < b → 0 < e → a * e ≤ c * b →
    wpf fns (.fn 53 [] []) [.agg [.bool s, av, bv, .bool t, cv, ev]] S fun r S' => ∃ nv dv n d, r = .agg [.bool false, nv, dv] ∧ NatIs S' nv n ∧ NatIs S' dv d ∧ BestN a b c e n d ∧ Same S S'
  | 0, _, _, _, _, _, _, _, _, _, _, _, hN, _, _, _, _, _, _, _, _, hb0, _, _ => by omega
  | N + 1, S, s, t, av, bv, cv, ev, a, b, c, e, hN, ha, hb, hc, he, xa, xb, xc, xe, hb0, he0, hle => by
    have fa : Fits a := Fits.of xa (by decide)
    have fb : Fits b := Fits.of xb (by decide)
    have fc : Fits c := Fits.of xc (by decide)
    have fe : Fits e := Fits.of xe (by decide)
    refine wpf_fn H.f53 (by simp) ?_
    simp only [↓stU, stD, Nat.reduceEqDiff, ↓reduceIte, reduceCtorEq]
    refine wpc_seq (wpc_reg ?_)
    refine wpo_box (by simp only [↓stU, stD, Nat.reduceEqDiff, ↓reduceIte, reduceCtorEq, cells_agg]; rfl) ?_
    intro S1 hS1 hn1 hc1
    refine wpo_alloc ?_
    intro S2 hS2 hn2 hc2
    simp only [↓stU, stD, Nat.reduceEqDiff, ↓reduceIte, reduceCtorEq]
    have hS := hS1.trans hS2
    have g1 : S2.h.get S.nx = some (.cells [.bool s, av, bv, .bool t, cv, ev] false 0) := by rw [hS2.2 _ (by omega)]; exact hc1
    refine wpc_seq (wpc_reg ?_)
    have L1 := ld6 (i := 0) (j := 1) g1 rfl
    have L2 := ld6 (i := 0) (j := 2) g1 rfl
    simp only [↓stU, stD, Nat.reduceEqDiff, ↓reduceIte, reduceCtorEq, evQ_faddr, faddr_ptr, L1, L2]
    refine wpo_call ?_
    simp only [↓stU, stD, Nat.reduceEqDiff, ↓reduceIte, reduceCtorEq]
    refine wpf_mono (div_spec H (ha.same hS) (hb.same hS) fa hb0) ?_
    rintro _ S3 ⟨qv, rv, rfl, hq, hr, hS3⟩
    simp only [↓stU, stD, Nat.reduceEqDiff, ↓reduceIte, reduceCtorEq, ex0, ex1]
    refine wpc_seq (wpc_reg ?_)
    simp only [↓stU, stD, Nat.reduceEqDiff, ↓reduceIte, reduceCtorEq]
    obtain ⟨lr, hr1, hr2, hr3⟩ := id hr
    have hlen : 0 < lr.length ↔ a % b ≠ 0 := by
      rw [← hr3]
      constructor
      · intro h h0
        have := norm_low hr2 (by rintro rfl; simp at h)
        have := Nat.pow_pos (n := lr.length - 1) B_pos
        omega
      · intro h
        rcases Nat.eq_zero_or_pos lr.length with h0 | h0
        · exact absurd (by rw [List.eq_nil_of_length_eq_zero h0]; rfl) h
        · exact h0
    have e3 := hS.trans hS3
    have l3 := hS3.1
    have g3 : S3.h.get S.nx = some (.cells [.bool s, av, bv, .bool t, cv, ev] false 0) := by rw [hS3.2 _ (by omega)]; exact g1
    have k3 : S3.h.get S1.nx = some (.cells [.bool false, .nilsl, .nilsl] false 0) := by rw [hS3.2 _ (by omega)]; exact hc2
    -- the whole number above
    refine wpc_seq (wpc_mono (Q := fun o A' S' => o = .normal ∧ Same S3 S' ∧ A'.inr = false ∧ tmpV 1 A'.F = .ptr S.nx 0 ∧ tmpV 2 A'.F = .ptr S1.nx 0 ∧ tmpV 3 A'.F = qv ∧ tmpV 4 A'.F = rv ∧ NatIs S' (tmpV 5 A'.F) (up a b)) ?_ ?_)
    · refine wpc_seq (wpc_reg ?_)
      simp only [↓stU, stD, Nat.reduceEqDiff, ↓reduceIte, reduceCtorEq, hr1.len]
      by_cases h0 : a % b = 0
      · have : ¬ 0 < lr.length := fun h => hlen.1 h h0
        refine wpc_if (t := false) (by simp only [↓stU, stD, Nat.reduceEqDiff, ↓reduceIte, reduceCtorEq, decide_eq_false (show ¬ (0 : Int) < ((lr.length : Nat) : Int) by omega)]) (fun h => by cases h) (fun _ => wpc_skip ?_)
        simp only [↓stU, stD, Nat.reduceEqDiff, ↓reduceIte, reduceCtorEq]
        refine ⟨Same.refl _, ?_⟩
        unfold up
        rw [if_pos h0]
        exact hq
      · have := hlen.2 h0
        refine wpc_if (t := true) (by simp only [↓stU, stD, Nat.reduceEqDiff, ↓reduceIte, reduceCtorEq, decide_eq_true (show (0 : Int) < ((lr.length : Nat) : Int) by omega)]) (fun _ => wpc_reg ?_) (fun h => by cases h)
        simp only [↓stU, stD, Nat.reduceEqDiff, ↓reduceIte, reduceCtorEq]
        refine wpo_call ?_
        simp only [↓stU, stD, Nat.reduceEqDiff, ↓reduceIte, reduceCtorEq]
        refine wpf_mono (one_spec H.f66) ?_
        rintro ov S4 ⟨ho, hS4⟩
        try simp only [↓stU, stD, Nat.reduceEqDiff, ↓reduceIte, reduceCtorEq]
        refine wpo_call ?_
        simp only [↓stU, stD, Nat.reduceEqDiff, ↓reduceIte, reduceCtorEq]
        refine wpf_mono (add_spec H.f99 (hq.same hS4) ho (fa.mono (Nat.div_le_self ..)) (Fits.of (i := 1) (by decide) (by decide))) ?_
        rintro sv S5 ⟨hs, hS5⟩
        try simp only [↓stU, stD, Nat.reduceEqDiff, ↓reduceIte, reduceCtorEq]
        refine ⟨hS4.trans hS5, ?_⟩
        unfold up
        rw [if_neg h0]
        exact hs
    rintro o ⟨F, inr⟩ S5 ⟨rfl, s5, q0, p1, p2, p3, p4, hu⟩
    simp only at q0 p1 p2 p3 p4 hu
    subst q0
    try simp only [↓stU, stD, Nat.reduceEqDiff, ↓reduceIte, reduceCtorEq]
    generalize hu5 : tmpV 5 F = uv at hu
    have e5 := e3.trans s5
    have l5 := s5.1
    have g5 : S5.h.get S.nx = some (.cells [.bool s, av, bv, .bool t, cv, ev] false 0) := by rw [s5.2 _ (by omega)]; exact g3
    have k5 : S5.h.get S1.nx = some (.cells [.bool false, .nilsl, .nilsl] false 0) := by rw [s5.2 _ (by omega)]; exact k3
    have t5 : S.nx < S5.nx := by omega
    have M1 := ld6 (i := 3) (j := 1) g5 rfl
    have M2 := ld6 (i := 3) (j := 2) g5 rfl
    have hul : up a b ≤ a + 1 := by have := Nat.div_le_self a b; unfold up; split <;> omega
    have xu := Nat.lt_of_le_of_lt hul (pow_step xa)
    have fu : Fits (up a b) := Fits.of xu (by decide)
    -- is it below the upper number?
    refine wpc_seq (wpc_seq (wpc_mono (Q := fun o A' S' => o = .normal ∧ Same S5 S' ∧ A'.inr = false ∧ tmpV 1 A'.F = .ptr S.nx 0 ∧ tmpV 2 A'.F = .ptr S1.nx 0 ∧ tmpV 3 A'.F = qv ∧ tmpV 4 A'.F = rv ∧ tmpV 5 A'.F = uv ∧ tmpV 34 A'.F = .bool (decide (up a b * e ≤ c))) ?_ ?_))
    · refine wpc_drd1 (fun _ => False) ?_
      intro S6 s6
      simp only [↓stU, stD, Nat.reduceEqDiff, ↓reduceIte, reduceCtorEq, ↓stV, stW, Nat.reduceAdd, p1, hu5, evQ_faddr, isLoad_faddr, faddr_ptr, M2, t5, not_false_eq_true, nat_self he]
      refine runD_call0 rfl ?_
      try simp only [↓stU, stD, Nat.reduceEqDiff, ↓reduceIte, reduceCtorEq, ↓stV, stW, Nat.reduceAdd]
      refine wpf_mono (mul_spec H.f103 H.f64 (hu.same s6) (he.same (e5.trans s6)) fu fe) ?_
      rintro x S7 ⟨hx, s7⟩
      refine ⟨s7, ?_⟩
      simp only [↓stU, stD, Nat.reduceEqDiff, ↓reduceIte, reduceCtorEq, ↓stV, stW, Nat.reduceAdd, p1, evQ_faddr, isLoad_faddr, faddr_ptr, M1, t5, not_false_eq_true, nat_self hc]
      refine runD_call0 rfl ?_
      try simp only [↓stU, stD, Nat.reduceEqDiff, ↓reduceIte, reduceCtorEq, ↓stV, stW, Nat.reduceAdd]
      have fx : Fits (up a b * e) := Fits.of (mul_lt_pow xu xe) (by decide)
      refine wpf_mono (cmp_spec H.f63 hx (hc.same (e5.trans (s6.trans s7))) fx) ?_
      rintro _ S8 ⟨rfl, s8⟩
      refine ⟨s8, ?_⟩
      have hcmp : decide (cmpI (up a b * e) c ≤ 0) = decide (up a b * e ≤ c) := by
        unfold cmpI
        by_cases h : up a b * e ≤ c
        · rw [decide_eq_true h]
          split
          · rfl
          · rw [if_pos (by omega)]; rfl
        · rw [decide_eq_false h, if_neg (by omega), if_neg (by omega)]; rfl
      simp only [↓stU, stD, Nat.reduceEqDiff, ↓reduceIte, reduceCtorEq, ↓stV, stW, Nat.reduceAdd, p1, p2, p3, p4, hu5, hcmp]
      exact s6.trans (s7.trans s8)
    rintro o ⟨F, inr⟩ S8 ⟨rfl, s8, q0, p1, p2, p3, p4, p5, p34⟩
    simp only at q0 p1 p2 p3 p4 p5 p34
    subst q0
    try simp only [↓stU, stD, Nat.reduceEqDiff, ↓reduceIte, reduceCtorEq]
    have e8 := e5.trans s8
    have l8 := s8.1
    have g8 : S8.h.get S.nx = some (.cells [.bool s, av, bv, .bool t, cv, ev] false 0) := by rw [s8.2 _ (by omega)]; exact g5
    have k8 : S8.h.get S1.nx = some (.cells [.bool false, .nilsl, .nilsl] false 0) := by rw [s8.2 _ (by omega)]; exact k5
    by_cases hw : up a b * e ≤ c
    · refine wpc_if (t := true) (by simp only [↓stU, stD, Nat.reduceEqDiff, ↓reduceIte, reduceCtorEq, p34, decide_eq_true hw]) (fun _ => ?_) (fun h => by cases h)
      refine wpc_seq (wpc_reg ?_)
      simp only [↓stU, stD, Nat.reduceEqDiff, ↓reduceIte, reduceCtorEq, p5]
      refine wpo_call ?_
      simp only [↓stU, stD, Nat.reduceEqDiff, ↓reduceIte, reduceCtorEq]
      refine wpf_mono (whole_spec H (hu.same s8) fu) ?_
      rintro w S9 ⟨hw9, s9⟩
      obtain ⟨w0, w1, rfl, i1, i2⟩ := hw9
      have i1' : NatIs S9 w0 (up a b) := i1
      have i2' : NatIs S9 w1 1 := i2
      have hneg : decide (((sg false (up a b) : Int) : Rat).num < 0) = false := decide_eq_false (by rw [num_cast]; simp [sg])
      rw [hneg]
      have k9 : S9.h.get S1.nx = some (.cells [.bool false, .nilsl, .nilsl] false 0) := by rw [s9.2 _ (by omega)]; exact k8
      refine wpo_st (b := S1.nx) (by simp only [↓stU, stD, Nat.reduceEqDiff, ↓reduceIte, reduceCtorEq, p2]) (by simp only [↓stU, stD, Nat.reduceEqDiff, ↓reduceIte, reduceCtorEq, cells_agg]; rfl) k9 rfl rfl ?_
      intro S10 s10 n10 b10
      simp only [↓stU, stD, Nat.reduceEqDiff, ↓reduceIte, reduceCtorEq]
      refine wpc_ret ?_
      simp only [↓stU, stD, Nat.reduceEqDiff, ↓reduceIte, reduceCtorEq, results_cell, ld3 b10, p2]
      exact ⟨w0, w1, up a b, 1, rfl, i1'.st k9 rfl s10 b10, i2'.st k9 rfl s10 b10, best_whole hb0 hw, s10.same (e8.trans s9) (by omega)⟩
    refine wpc_if (t := false) (by simp only [↓stU, stD, Nat.reduceEqDiff, ↓reduceIte, reduceCtorEq, p34, decide_eq_false hw]) (fun h => by cases h) (fun _ => wpc_skip ?_)
    simp only [↓stU, stD, Nat.reduceEqDiff, ↓reduceIte, reduceCtorEq]
    -- between two whole numbers
    have hdm := Nat.div_add_mod a b
    have hq0 : a / b = a / b := rfl
    have hrl := Nat.mod_lt a hb0
    have key : b * (a / b * e) + a % b * e ≤ b * c := by
      have : (b * (a / b) + a % b) * e ≤ c * b := by rw [hdm]; exact hle
      rw [Nat.add_mul, Nat.mul_assoc, Nat.mul_comm c b] at this
      exact this
    have hr0 : 0 < a % b := by
      rcases Nat.eq_zero_or_pos (a % b) with h0 | h0
      · exfalso
        apply hw
        unfold up
        rw [if_pos h0]
        rw [h0, Nat.zero_mul, Nat.add_zero] at key
        exact Nat.le_of_mul_le_mul_left key hb0
      · exact h0
    have hqe : a / b * e < c := by
      have := Nat.mul_pos hr0 he0
      exact Nat.lt_of_mul_lt_mul_left (a := b) (by omega)
    have hfe : c - a / b * e < e := by
      have : ¬ (a / b + 1) * e ≤ c := by
        have h := hw
        unfold up at h
        rw [if_neg (by omega)] at h
        exact h
      rw [Nat.add_mul, Nat.one_mul] at this
      omega
    have hq' : a / b ≤ a := Nat.div_le_self a b
    have hcf : c = e * (a / b) + (c - a / b * e) := by rw [Nat.mul_comm e]; omega
    have hlo : e * (a % b) ≤ b * (c - a / b * e) := by
      rw [Nat.mul_sub, Nat.mul_comm e]
      omega
    have xq := Nat.lt_of_le_of_lt hq' xa
    have fq : Fits (a / b) := fa.mono hq'
    have fqe : Fits (a / b * e) := fc.mono (Nat.le_of_lt hqe)
    have xr : a % b < B ^ 1024 := Nat.lt_trans hrl xb
    have xf : c - a / b * e < B ^ 1024 := Nat.lt_trans hfe xe
    generalize hqq : a / b = q at *
    generalize hrr : a % b = r at *
    generalize hff : c - q * e = f at *
    have hf0 : 0 < f := by omega
    have N1 := ld6 (i := 3) (j := 1) g8 rfl
    have N2 := ld6 (i := 3) (j := 2) g8 rfl
    have N3 := ld6 (i := 0) (j := 2) g8 rfl
    have t8 : S.nx < S8.nx := by omega
    have hq8 := hq.same (s5.trans s8)
    refine wpc_seq (wpc_mono (Q := fun o A' S' => o = .normal ∧ Same S8 S' ∧ A'.inr = false ∧ tmpV 1 A'.F = .ptr S.nx 0 ∧ tmpV 2 A'.F = .ptr S1.nx 0 ∧ tmpV 3 A'.F = qv ∧ tmpV 4 A'.F = rv ∧ NatIs S' (tmpV 6 A'.F) f) ?_ ?_)
    · refine wpc_drd1 (fun _ => False) ?_
      intro S9 s9
      simp only [↓stU, stD, Nat.reduceEqDiff, ↓reduceIte, reduceCtorEq, ↓stV, stW, Nat.reduceAdd, p1, p3, evQ_faddr, isLoad_faddr, faddr_ptr, N1, N2, t8, not_false_eq_true, nat_self hc, nat_self he]
      refine runD_call0 rfl ?_
      try simp only [↓stU, stD, Nat.reduceEqDiff, ↓reduceIte, reduceCtorEq, ↓stV, stW, Nat.reduceAdd]
      refine wpf_mono (mul_spec H.f103 H.f64 (hq8.same s9) (he.same (e8.trans s9)) fq fe) ?_
      rintro x S10 ⟨hx, s10⟩
      refine ⟨s10, ?_⟩
      try simp only [↓stU, stD, Nat.reduceEqDiff, ↓reduceIte, reduceCtorEq, ↓stV, stW, Nat.reduceAdd]
      refine runD_call0 rfl ?_
      try simp only [↓stU, stD, Nat.reduceEqDiff, ↓reduceIte, reduceCtorEq, ↓stV, stW, Nat.reduceAdd]
      refine wpf_mono (sub_spec H.f103 H.f100 (hc.same (e8.trans (s9.trans s10))) hx (Nat.le_of_lt hqe) fc) ?_
      rintro y S11 ⟨hy, s11⟩
      refine ⟨s11, ?_⟩
      rw [hff] at hy
      simp only [↓stU, stD, Nat.reduceEqDiff, ↓reduceIte, reduceCtorEq, ↓stV, stW, Nat.reduceAdd, p1, p2, p3, p4]
      exact ⟨s9.trans (s10.trans s11), hy⟩
    rintro o ⟨F, inr⟩ S11 ⟨rfl, s11, q0, p1, p2, p3, p4, hfv⟩
    simp only at q0 p1 p2 p3 p4 hfv
    subst q0
    try simp only [↓stU, stD, Nat.reduceEqDiff, ↓reduceIte, reduceCtorEq]
    generalize hf6 : tmpV 6 F = fv at hfv
    have e11 := e8.trans s11
    have l11 := s11.1
    have g11 : S11.h.get S.nx = some (.cells [.bool s, av, bv, .bool t, cv, ev] false 0) := by rw [s11.2 _ (by omega)]; exact g8
    have k11 : S11.h.get S1.nx = some (.cells [.bool false, .nilsl, .nilsl] false 0) := by rw [s11.2 _ (by omega)]; exact k8
    have O2 := ld6 (i := 3) (j := 2) g11 rfl
    have O3 := ld6 (i := 0) (j := 2) g11 rfl
    refine wpc_seq (wpc_reg ?_)
    simp only [↓stU, stD, Nat.reduceEqDiff, ↓reduceIte, reduceCtorEq, p1, p4, hf6, evQ_faddr, faddr_ptr, O2, O3, evQ_b2, nat_cells he, nat_cells hfv, nat_cells hb, nat_cells hr, evQ_b6, join6_eq]
    refine wpo_call ?_
    simp only [↓stU, stD, Nat.reduceEqDiff, ↓reduceIte, reduceCtorEq]
    have hr11 := hr.same (s5.trans (s8.trans s11))
    refine wpf_mono (simple_spec H N (a := e) (b := f) (c := b) (e := r) (by omega) (he.same e11) hfv (hb.same e11) hr11 xe xf xb xr hf0 hr0 hlo) ?_
    rintro _ S12 ⟨nv, dv, n, d, rfl, hn, hd, hbest, s12⟩
    try simp only [↓stU, stD, Nat.reduceEqDiff, ↓reduceIte, reduceCtorEq]
    refine wpo_alloc ?_
    intro S13 s13 n13 c13
    refine wpo_st (b := S12.nx) (by simp only [↓stU, stD, Nat.reduceEqDiff, ↓reduceIte, reduceCtorEq]) (by simp only [↓stU, stD, Nat.reduceEqDiff, ↓reduceIte, reduceCtorEq, cells_agg]; rfl) c13 rfl rfl ?_
    intro S14 s14 n14 g14
    simp only [↓stU, stD, Nat.reduceEqDiff, ↓reduceIte, reduceCtorEq]
    have s1214 : Same S12 S14 := s14.same s13 (Nat.le_refl _)
    have s1114 := s12.trans s1214
    have e14 := e11.trans s1114
    have l12 := s12.1
    have k14 : S14.h.get S1.nx = some (.cells [.bool false, .nilsl, .nilsl] false 0) := by rw [s1114.2 _ (by omega)]; exact k11
    have hn14 := hn.same s1214
    have hd14 := hd.same s1214
    have hq14 := hq8.same (s11.trans s1114)
    obtain ⟨bst, hn0⟩ := best_step (a := a) (b := b) (c := c) (e := e) hdm.symm hr0 hcf he0 hb0 hbest
    obtain ⟨bd, bn⟩ := best_le hbest hf0 hlo
    obtain ⟨_, bq⟩ := best_le bst hb0 hle
    have fn : Fits n := fe.mono bn
    have fd : Fits d := (Fits.of xf (by decide)).mono bd
    have fqn : Fits (q * n) := fa.mono (by omega)
    have tN : S12.nx < S14.nx := by omega
    have neN : ¬ S12.nx = S1.nx := by omega
    refine wpc_seq (wpc_mono (Q := fun o A' S' => o = .normal ∧ SameBut S1.nx S14 S' ∧ tmpV 2 A'.F = .ptr S1.nx 0 ∧ ∃ xv, S'.h.get S1.nx = some (.cells [.bool false, xv, nv] false 0) ∧ NatIs S' xv (q * n + d) ∧ NatIs S' nv n) ?_ ?_)
    · refine wpc_drd1 (fun c => c = S1.nx) ?_
      intro S15 s15
      simp only [↓stU, stD, Nat.reduceEqDiff, ↓reduceIte, reduceCtorEq, ↓stV, stW, Nat.reduceAdd, p2, p3, evQ_faddr, isLoad_faddr, faddr_ptr, ld3_1 g14, ld3_2 g14, tN, neN, not_false_eq_true, nat_self hn, nat_self hd]
      refine runD_call0 rfl ?_
      try simp only [↓stU, stD, Nat.reduceEqDiff, ↓reduceIte, reduceCtorEq, ↓stV, stW, Nat.reduceAdd]
      refine wpf_mono (mul_spec H.f103 H.f64 (hq14.same s15) (hn14.same s15) fq fn) ?_
      rintro x S16 ⟨hx, s16⟩
      refine ⟨s16, ?_⟩
      simp only [↓stU, stD, Nat.reduceEqDiff, ↓reduceIte, reduceCtorEq, ↓stV, stW, Nat.reduceAdd, p2, p3, evQ_faddr, isLoad_faddr, faddr_ptr, ld3_1 g14, ld3_2 g14, tN, neN, not_false_eq_true, nat_self hn, nat_self hd]
      refine runD_call0 rfl ?_
      try simp only [↓stU, stD, Nat.reduceEqDiff, ↓reduceIte, reduceCtorEq, ↓stV, stW, Nat.reduceAdd]
      have s1416 := s15.trans s16
      refine wpf_mono (add_spec H.f99 hx (hd14.same s1416) fqn fd) ?_
      rintro y S17 ⟨hy, s17⟩
      refine ⟨s17, ?_⟩
      have s1417 := s1416.trans s17
      have k17 : S17.h.get S1.nx = some (.cells [.bool false, .nilsl, .nilsl] false 0) := by rw [s1417.2 _ (by omega)]; exact k14
      simp only [↓stU, stD, Nat.reduceEqDiff, ↓reduceIte, reduceCtorEq, ↓stV, stW, Nat.reduceAdd, p2, evQ_faddr, isLoad_faddr, isLoad_build, faddr_ptr, ld3_1 g14, tN, neN, not_false_eq_true, nat_self hn, evQ_b2, nat_cells hy, nat_cells hn]
      refine runD_st0 (b := S1.nx) rfl (by simp only [↓stU, stD, Nat.reduceEqDiff, ↓reduceIte, reduceCtorEq, ↓stV, stW, Nat.reduceAdd, p2]) (by simp only [↓stU, stD, Nat.reduceEqDiff, ↓reduceIte, reduceCtorEq, ↓stV, stW, Nat.reduceAdd, cells_agg]; rfl) k17 rfl rfl rfl ?_
      intro S18 s18 n18 b18
      simp only [↓stU, stD, Nat.reduceEqDiff, ↓reduceIte, reduceCtorEq, ↓stV, stW, Nat.reduceAdd, p2]
      exact ⟨sameBut_trans' s1417 s18, y, b18, hy.st k17 rfl s18 b18, (hn14.same s1417).st k17 rfl s18 b18⟩
    rintro o ⟨F, inr⟩ S18 ⟨rfl, s18, p2, xv, b18, hxv, hnv⟩
    simp only at p2
    try simp only [↓stU, stD, Nat.reduceEqDiff, ↓reduceIte, reduceCtorEq]
    refine wpc_ret ?_
    simp only [↓stU, stD, Nat.reduceEqDiff, ↓reduceIte, reduceCtorEq, results_cell, ld3 b18, p2]
    exact ⟨xv, nv, q * n + d, n, rfl, hxv, hnv, bst, s18.same e14 (by omega)⟩
end Go.Ev.Gl

namespace Go.Ev.Gl
variable {fns : T AFn}

/-! ## The simplest number between two numbers -/
def BestR (p q s : Rat) : Prop := p ≤ s ∧ s ≤ q ∧ ∀ x : Rat, p ≤ x → x ≤ q → s.den ≤ x.den ∧ s.num.natAbs ≤ x.num.natAbs
theorem le_num (p q : Rat) : p ≤ q ↔ p.num * q.den ≤ q.num * p.den := by
  rw [← Rat.not_lt, num_lt]; omega
theorem le_nat {p q : Rat} (hp : 0 < p.num) (hq : 0 < q.num) : p ≤ q ↔ p.num.natAbs * q.den ≤ q.num.natAbs * p.den := by
  rw [le_num]
  have e1 : ((p.num.natAbs * q.den : Nat) : Int) = p.num * q.den := by rw [Int.natCast_mul, show ((p.num.natAbs : Nat) : Int) = p.num by omega]
  have e2 : ((q.num.natAbs * p.den : Nat) : Int) = q.num * p.den := by rw [Int.natCast_mul, show ((q.num.natAbs : Nat) : Int) = q.num by omega]
  omega
theorem pos_le {p x : Rat} (hp : 0 < p.num) (h : p ≤ x) : 0 < x.num := by
  have := (le_num p x).1 h
  have h1 := den_pos p
  have h2 := den_pos x
  have h3 := Int.mul_pos hp h2
  by_cases h4 : 0 < x.num
  · exact h4
  · have := Int.mul_nonneg (show 0 ≤ -x.num by omega) (Int.le_of_lt h1)
    rw [Int.neg_mul] at this
    omega

/-- out of the plain fact: where the lower number is positive -/
theorem best_pos {p q : Rat} (hp : 0 < p.num) (hpq : p ≤ q) {n d : Nat} (h : BestN p.num.natAbs p.den q.num.natAbs q.den n d) : BestR p q (mkRat n d) ∧ (mkRat n d).num = n ∧ (mkRat n d).den = d := by
  have hq := pos_le hp hpq
  obtain ⟨h1, h2, h3, h4, h5⟩ := h
  obtain ⟨e1, e2⟩ := rat_mk (n := (n : Int)) (d := d) (by omega) (by simpa using h4)
  have hn : 0 < n := by
    rcases Nat.eq_zero_or_pos n with rfl | hn
    · rw [Nat.zero_mul] at h1
      have := Nat.mul_pos (show 0 < p.num.natAbs by omega) h3
      omega
    · exact hn
  refine ⟨⟨?_, ?_, fun x k1 k2 => ?_⟩, e1, e2⟩
  · rw [le_nat hp (by omega), e1, e2]; simpa using h1
  · rw [le_nat (by omega) hq, e1, e2]; simpa using h2
  · have hx := pos_le hp k1
    have := h5 x.num.natAbs x.den (by have := x.den_nz; omega) ((le_nat hp hx).1 k1) ((le_nat hx hq).1 k2)
    rw [e1, e2]
    exact ⟨this.1, by simpa using this.2⟩
theorem neg_le {p q : Rat} : -p ≤ -q ↔ q ≤ p := by grind
theorem best_neg {p q s : Rat} (h : BestR (-q) (-p) s) : BestR p q (-s) := by
  obtain ⟨h1, h2, h3⟩ := h
  refine ⟨by grind, by grind, fun x k1 k2 => ?_⟩
  have := h3 (-x) (neg_le.2 k2) (neg_le.2 k1)
  rw [Rat.neg_den, Rat.neg_num, Int.natAbs_neg] at this
  rw [Rat.neg_den, Rat.neg_num, Int.natAbs_neg]
  exact this
theorem best_same (p : Rat) : BestR p p p := ⟨Rat.le_refl, Rat.le_refl, fun x k1 k2 => by rw [Rat.le_antisymm k2 k1]; exact ⟨Nat.le_refl _, Nat.le_refl _⟩⟩
theorem best_zero {p q : Rat} (hp : p ≤ 0) (hq : 0 ≤ q) : BestR p q 0 := ⟨hp, hq, fun x _ _ => ⟨by have := x.den_nz; show 1 ≤ _; omega, Nat.zero_le _⟩⟩
theorem best_in {p q s : Rat} (hpq : p ≤ q) (h : BestR p q s) (hp : InBound p) : InBound s := by
  obtain ⟨h1, h2⟩ := h.2.2 p Rat.le_refl hpq
  exact ⟨Nat.lt_of_le_of_lt h2 hp.1, Nat.lt_of_le_of_lt h1 hp.2⟩
theorem InBound.neg {q : Rat} (h : InBound q) : InBound (-q) := by
  unfold InBound
  rw [Rat.neg_num, Rat.neg_den, Int.natAbs_neg]
  exact h

/-- the call of simple, for numbers -/
theorem simple_rat {S : St} {a0 a1 a2 b0 b1 b2 : AV} {p q : Rat} (H : Has fns) (ha : RatIs S (.agg [a0, a1, a2]) p) (hb : RatIs S (.agg [b0, b1, b2]) q) (hp : InBound p) (hq : InBound q) (h0 : 0 < p.num) (hpq : p ≤ q) :
    wpf fns (.fn 53 [] []) [.agg [a0, a1, a2, b0, b1, b2]] S fun r S' => ∃ s, RatIs S' r s ∧ BestR p q s ∧ Same S S' := by
  obtain ⟨nv, dv, he, n1, n2⟩ := ha
  cases he
  obtain ⟨mv, ev, he, m1, m2⟩ := hb
  cases he
  have hq0 := pos_le h0 hpq
  have d1 := p.den_nz
  have d2 := q.den_nz
  refine wpf_mono (simple_spec H _ (Nat.le_refl _) n1 n2 m1 m2 hp.1 hp.2 hq.1 hq.2 (by omega) (by omega) ((le_nat h0 hq0).1 hpq)) ?_
  rintro _ S' ⟨xv, yv, n, d, rfl, hx, hy, hbest, hS⟩
  obtain ⟨hb, e1, e2⟩ := best_pos h0 hpq hbest
  refine ⟨mkRat n d, ⟨xv, yv, ?_, by rw [e1]; simpa using hx, by rw [e2]; exact hy⟩, hb, hS⟩
  rw [e1, decide_eq_false (by omega)]

theorem rsimple_spec {S : St} {a b : AV} {p q : Rat} (H : Has fns) (hL : Laid S) (ha : RatIs S a p) (hb : RatIs S b q) (hp : InBound p) (hq : InBound q) (hpq : p ≤ q) : wpf fns (.fn 12 [] []) [a, b] S fun r S' => ∃ v s, r = .tup [v, .int .i64 0] ∧ RatIs S' v s ∧ BestR p q s ∧ Same S S' := by
  obtain ⟨a0, a1, a2, rfl⟩ := ha.cells
  obtain ⟨b0, b1, b2, rfl⟩ := hb.cells
  refine wpf_fn H.f12 (by simp) ?_
  simp only [↓stU, stD, Nat.reduceEqDiff, ↓reduceIte, reduceCtorEq]
  refine wpc_seq (wpc_reg ?_)
  refine wpo_box (by simp only [↓stU, stD, Nat.reduceEqDiff, ↓reduceIte, reduceCtorEq, cells_agg]; rfl) ?_
  intro S1 hS1 hn1 hc1
  refine wpo_box (by simp only [↓stU, stD, Nat.reduceEqDiff, ↓reduceIte, reduceCtorEq, cells_agg]; rfl) ?_
  intro S2 hS2 hn2 hc2
  refine wpo_alloc ?_
  intro S3 hS3 hn3 hc3
  simp only [↓stU, stD, Nat.reduceEqDiff, ↓reduceIte, reduceCtorEq]
  have g1 : S3.h.get S.nx = some (.cells [a0, a1, a2] false 0) := by rw [hS3.2 _ (by omega), hS2.2 _ (by omega)]; exact hc1
  have g2 : S3.h.get S1.nx = some (.cells [b0, b1, b2] false 0) := by rw [hS3.2 _ (by omega)]; exact hc2
  have hS := hS1.trans (hS2.trans hS3)
  refine wpc_seq (wpc_reg ?_)
  simp only [↓stU, stD, Nat.reduceEqDiff, ↓reduceIte, reduceCtorEq, ld3 g1, ld3 g2]
  refine wpo_call ?_
  simp only [↓stU, stD, Nat.reduceEqDiff, ↓reduceIte, reduceCtorEq]
  refine wpf_mono (rcmp_spec H (hL.same hS) (ha.same hS) (hb.same hS) hp hq) ?_
  rintro _ S4 ⟨rfl, hS4⟩
  simp only [↓stU, stD, Nat.reduceEqDiff, ↓reduceIte, reduceCtorEq, ex0, ex1]
  have k1 : S4.h.get S.nx = some (.cells [a0, a1, a2] false 0) := by rw [hS4.2 _ (by omega)]; exact g1
  have k2 : S4.h.get S1.nx = some (.cells [b0, b1, b2] false 0) := by rw [hS4.2 _ (by omega)]; exact g2
  have k3 : S4.h.get S2.nx = some (.cells [.bool false, .nilsl, .nilsl] false 0) := by rw [hS4.2 _ (by omega)]; exact hc3
  have l4 := hS4.1
  have e4 := hS.trans hS4
  have hne : ¬ (0 : Int) < cmpR p q := by
    unfold cmpR
    by_cases h : p < q
    · rw [if_pos h]; decide
    · rw [if_neg h, if_pos (Rat.le_antisymm hpq (Rat.not_lt.1 h))]; decide
  refine wpc_seq (wpc_seq (wpc_reg ?_))
  simp only [↓stU, stD, Nat.reduceEqDiff, ↓reduceIte, reduceCtorEq]
  refine wpc_if (t := false) (by simp only [↓stU, stD, Nat.reduceEqDiff, ↓reduceIte, reduceCtorEq]; rfl) (fun h => by cases h) (fun _ => wpc_skip ?_)
  simp only [↓stU, stD, Nat.reduceEqDiff, ↓reduceIte, reduceCtorEq]
  refine wpc_seq (wpc_seq (wpc_reg ?_))
  simp only [↓stU, stD, Nat.reduceEqDiff, ↓reduceIte, reduceCtorEq]
  refine wpc_if (t := false) (by simp only [↓stU, stD, Nat.reduceEqDiff, ↓reduceIte, reduceCtorEq, decide_eq_false hne]) (fun h => by cases h) (fun _ => wpc_skip ?_)
  simp only [↓stU, stD, Nat.reduceEqDiff, ↓reduceIte, reduceCtorEq]
  refine wpc_seq (wpc_seq (wpc_reg ?_))
  simp only [↓stU, stD, Nat.reduceEqDiff, ↓reduceIte, reduceCtorEq]
  by_cases h0 : cmpR p q = 0
  · refine wpc_if (t := true) (by simp only [↓stU, stD, Nat.reduceEqDiff, ↓reduceIte, reduceCtorEq, decide_eq_true h0]) (fun _ => ?_) (fun h => by cases h)
    refine wpc_seq (wpc_reg ?_)
    simp only [↓stU, stD, Nat.reduceEqDiff, ↓reduceIte, reduceCtorEq, ld3 k1]
    refine wpo_call ?_
    simp only [↓stU, stD, Nat.reduceEqDiff, ↓reduceIte, reduceCtorEq]
    refine wpf_mono (clone_spec H (ha.same e4) hp.half.fits) ?_
    rintro w S5 ⟨hw, s5⟩
    obtain ⟨w0, w1, w2, rfl⟩ := hw.cells
    try simp only [↓stU, stD, Nat.reduceEqDiff, ↓reduceIte, reduceCtorEq]
    have k5 : S5.h.get S2.nx = some (.cells [.bool false, .nilsl, .nilsl] false 0) := by rw [s5.2 _ (by omega)]; exact k3
    refine wpo_st (b := S2.nx) (by simp only [↓stU, stD, Nat.reduceEqDiff, ↓reduceIte, reduceCtorEq]) (by simp only [↓stU, stD, Nat.reduceEqDiff, ↓reduceIte, reduceCtorEq, cells_agg]; rfl) k5 rfl rfl ?_
    intro S6 s6 n6 b6
    simp only [↓stU, stD, Nat.reduceEqDiff, ↓reduceIte, reduceCtorEq]
    refine wpc_ret ?_
    simp only [↓stU, stD, Nat.reduceEqDiff, ↓reduceIte, reduceCtorEq, results_cell, ld3 b6]
    have hpq' := cmpR_eq0.1 h0
    refine ⟨_, p, rfl, hw.st k5 rfl s6 b6, ?_, s6.same (e4.trans s5) (by omega)⟩
    rw [← hpq']
    exact best_same p
  refine wpc_if (t := false) (by simp only [↓stU, stD, Nat.reduceEqDiff, ↓reduceIte, reduceCtorEq, decide_eq_false h0]) (fun h => by cases h) (fun _ => wpc_skip ?_)
  simp only [↓stU, stD, Nat.reduceEqDiff, ↓reduceIte, reduceCtorEq]
  refine wpc_seq (wpc_seq (wpc_reg ?_))
  simp only [↓stU, stD, Nat.reduceEqDiff, ↓reduceIte, reduceCtorEq, ld3 k1]
  refine wpo_call ?_
  simp only [↓stU, stD, Nat.reduceEqDiff, ↓reduceIte, reduceCtorEq]
  refine wpf_mono (signOf_spec H (ha.same e4)) ?_
  rintro _ S5 ⟨rfl, s5⟩
  simp only [↓stU, stD, Nat.reduceEqDiff, ↓reduceIte, reduceCtorEq]
  have j1 : S5.h.get S.nx = some (.cells [a0, a1, a2] false 0) := by rw [s5.2 _ (by omega)]; exact k1
  have j2 : S5.h.get S1.nx = some (.cells [b0, b1, b2] false 0) := by rw [s5.2 _ (by omega)]; exact k2
  have j3 : S5.h.get S2.nx = some (.cells [.bool false, .nilsl, .nilsl] false 0) := by rw [s5.2 _ (by omega)]; exact k3
  have l5 := s5.1
  have e5 := e4.trans s5
  by_cases h1 : 0 < p.num
  · have hs : sgn p = 2 := by unfold sgn; rw [if_neg (by omega), if_neg (by omega)]
    refine wpc_if (t := true) (by simp only [↓stU, stD, Nat.reduceEqDiff, ↓reduceIte, reduceCtorEq, decide_eq_true hs]) (fun _ => ?_) (fun h => by cases h)
    refine wpc_seq (wpc_reg ?_)
    simp only [↓stU, stD, Nat.reduceEqDiff, ↓reduceIte, reduceCtorEq, ld3 j1, ld3 j2, evQ_b6, join6_eq]
    refine wpo_call ?_
    simp only [↓stU, stD, Nat.reduceEqDiff, ↓reduceIte, reduceCtorEq]
    refine wpf_mono (simple_rat H (ha.same e5) (hb.same e5) hp hq h1 hpq) ?_
    rintro w S6 ⟨x, hw, hbest, s6⟩
    try simp only [↓stU, stD, Nat.reduceEqDiff, ↓reduceIte, reduceCtorEq]
    have ix := best_in hpq hbest hp
    refine wpo_call ?_
    simp only [↓stU, stD, Nat.reduceEqDiff, ↓reduceIte, reduceCtorEq]
    refine wpf_mono (clone_spec H hw ix.half.fits) ?_
    rintro w' S7 ⟨hw', s7⟩
    obtain ⟨w0, w1, w2, rfl⟩ := hw'.cells
    try simp only [↓stU, stD, Nat.reduceEqDiff, ↓reduceIte, reduceCtorEq]
    refine wpo_call ?_
    simp only [↓stU, stD, Nat.reduceEqDiff, ↓reduceIte, reduceCtorEq]
    refine wpf_mono (bounded_spec H hw' ix) ?_
    rintro _ S8 ⟨rfl, hw8, s8⟩
    simp only [↓stU, stD, Nat.reduceEqDiff, ↓reduceIte, reduceCtorEq, ex0, ex1]
    have s58 := s6.trans (s7.trans s8)
    have k8 : S8.h.get S2.nx = some (.cells [.bool false, .nilsl, .nilsl] false 0) := by rw [s58.2 _ (by omega)]; exact j3
    refine wpo_st (b := S2.nx) (by simp only [↓stU, stD, Nat.reduceEqDiff, ↓reduceIte, reduceCtorEq]) (by simp only [↓stU, stD, Nat.reduceEqDiff, ↓reduceIte, reduceCtorEq, cells_agg]; rfl) k8 rfl rfl ?_
    intro S9 s9 n9 b9
    simp only [↓stU, stD, Nat.reduceEqDiff, ↓reduceIte, reduceCtorEq]
    refine wpc_ret ?_
    simp only [↓stU, stD, Nat.reduceEqDiff, ↓reduceIte, reduceCtorEq, results_cell, ld3 b9]
    exact ⟨_, x, rfl, hw8.st k8 rfl s9 b9, hbest, s9.same (e5.trans s58) (by omega)⟩
  have hs : ¬ sgn p = 2 := by unfold sgn; split <;> (try split) <;> omega
  refine wpc_if (t := false) (by simp only [↓stU, stD, Nat.reduceEqDiff, ↓reduceIte, reduceCtorEq, decide_eq_false hs]) (fun h => by cases h) (fun _ => wpc_skip ?_)
  simp only [↓stU, stD, Nat.reduceEqDiff, ↓reduceIte, reduceCtorEq]
  refine wpc_seq (wpc_seq (wpc_reg ?_))
  simp only [↓stU, stD, Nat.reduceEqDiff, ↓reduceIte, reduceCtorEq, ld3 j2]
  refine wpo_call ?_
  simp only [↓stU, stD, Nat.reduceEqDiff, ↓reduceIte, reduceCtorEq]
  refine wpf_mono (signOf_spec H (hb.same e5)) ?_
  rintro _ S6 ⟨rfl, s6⟩
  simp only [↓stU, stD, Nat.reduceEqDiff, ↓reduceIte, reduceCtorEq]
  have i1 : S6.h.get S.nx = some (.cells [a0, a1, a2] false 0) := by rw [s6.2 _ (by omega)]; exact j1
  have i2 : S6.h.get S1.nx = some (.cells [b0, b1, b2] false 0) := by rw [s6.2 _ (by omega)]; exact j2
  have i3 : S6.h.get S2.nx = some (.cells [.bool false, .nilsl, .nilsl] false 0) := by rw [s6.2 _ (by omega)]; exact j3
  have l6 := s6.1
  have e6 := e5.trans s6
  by_cases h2 : q.num < 0
  · have hs : sgn q = 0 := by unfold sgn; rw [if_neg (by omega), if_pos h2]
    refine wpc_if (t := true) (by simp only [↓stU, stD, Nat.reduceEqDiff, ↓reduceIte, reduceCtorEq, decide_eq_true hs]) (fun _ => ?_) (fun h => by cases h)
    have t1 : S.nx < S6.nx := by omega
    have t2 : S1.nx < S6.nx := by omega
    have u1 : ¬ S.nx = S2.nx := by omega
    have u2 : ¬ S1.nx = S2.nx := by omega
    refine wpc_seq (wpc_mono (Q := fun o A' S' => o = .normal ∧ SameBut S2.nx S6 S' ∧ tmpV 4 A'.F = .ptr S2.nx 0 ∧ tmpV 5 A'.F = .int .i64 0 ∧ ∃ w0 w1 w2 s, S'.h.get S2.nx = some (.cells [w0, w1, w2] false 0) ∧ RatIs S' (.agg [w0, w1, w2]) s ∧ BestR p q s) ?_ ?_)
    · refine wpc_drd1 (fun c => c = S2.nx) ?_
      intro S7 s7
      simp only [↓stU, stD, Nat.reduceEqDiff, ↓reduceIte, reduceCtorEq, ↓stV, stW, Nat.reduceAdd, ld3 i1, ld3 i2, t1, t2, u1, u2, not_false_eq_true, self_rat ha, self_rat hb]
      refine runD_call0 rfl ?_
      try simp only [↓stU, stD, Nat.reduceEqDiff, ↓reduceIte, reduceCtorEq, ↓stV, stW, Nat.reduceAdd]
      refine wpf_mono (negative_spec H (hb.same (e6.trans s7)) hq.half.fits) ?_
      rintro x S8 ⟨hx, s8⟩
      refine ⟨s8, ?_⟩
      simp only [↓stU, stD, Nat.reduceEqDiff, ↓reduceIte, reduceCtorEq, ↓stV, stW, Nat.reduceAdd, ld3 i1, ld3 i2, t1, t2, u1, u2, not_false_eq_true, self_rat ha, self_rat hb]
      refine runD_call0 rfl ?_
      try simp only [↓stU, stD, Nat.reduceEqDiff, ↓reduceIte, reduceCtorEq, ↓stV, stW, Nat.reduceAdd]
      refine wpf_mono (negative_spec H (ha.same (e6.trans (s7.trans s8))) hp.half.fits) ?_
      rintro y S9 ⟨hy, s9⟩
      refine ⟨s9, ?_⟩
      obtain ⟨x0, x1, x2, rfl⟩ := hx.cells
      obtain ⟨y0, y1, y2, rfl⟩ := hy.cells
      simp only [↓stU, stD, Nat.reduceEqDiff, ↓reduceIte, reduceCtorEq, ↓stV, stW, Nat.reduceAdd, evQ_b6, join6_eq, isLoad_build]
      refine runD_call0 rfl ?_
      try simp only [↓stU, stD, Nat.reduceEqDiff, ↓reduceIte, reduceCtorEq, ↓stV, stW, Nat.reduceAdd]
      have hle : -q ≤ -p := neg_le.2 hpq
      refine wpf_mono (simple_rat H (hx.same s9) hy hq.neg hp.neg (by rw [Rat.neg_num]; omega) hle) ?_
      rintro w S10 ⟨z, hw, hbest, s10⟩
      refine ⟨s10, ?_⟩
      have iz := best_in hle hbest hq.neg
      try simp only [↓stU, stD, Nat.reduceEqDiff, ↓reduceIte, reduceCtorEq, ↓stV, stW, Nat.reduceAdd]
      refine runD_call0 rfl ?_
      try simp only [↓stU, stD, Nat.reduceEqDiff, ↓reduceIte, reduceCtorEq, ↓stV, stW, Nat.reduceAdd]
      refine wpf_mono (negative_spec H hw iz.half.fits) ?_
      rintro w' S11 ⟨hw', s11⟩
      refine ⟨s11, ?_⟩
      obtain ⟨w0, w1, w2, rfl⟩ := hw'.cells
      try simp only [↓stU, stD, Nat.reduceEqDiff, ↓reduceIte, reduceCtorEq, ↓stV, stW, Nat.reduceAdd]
      refine runD_call0 rfl ?_
      try simp only [↓stU, stD, Nat.reduceEqDiff, ↓reduceIte, reduceCtorEq, ↓stV, stW, Nat.reduceAdd]
      refine wpf_mono (bounded_spec H hw' iz.neg) ?_
      rintro _ S12 ⟨rfl, hw12, s12⟩
      refine ⟨s12, ?_⟩
      simp only [↓stU, stD, Nat.reduceEqDiff, ↓reduceIte, reduceCtorEq, ↓stV, stW, Nat.reduceAdd, ex0, ex1]
      have s612 := s7.trans (s8.trans (s9.trans (s10.trans (s11.trans s12))))
      have k12 : S12.h.get S2.nx = some (.cells [.bool false, .nilsl, .nilsl] false 0) := by rw [s612.2 _ (by omega)]; exact i3
      refine runD_st0 (b := S2.nx) rfl (by simp only [↓stU, stD, Nat.reduceEqDiff, ↓reduceIte, reduceCtorEq, ↓stV, stW, Nat.reduceAdd]) (by simp only [↓stU, stD, Nat.reduceEqDiff, ↓reduceIte, reduceCtorEq, ↓stV, stW, Nat.reduceAdd, cells_agg]; rfl) k12 rfl rfl rfl ?_
      intro S13 s13 n13 b13
      simp only [↓stU, stD, Nat.reduceEqDiff, ↓reduceIte, reduceCtorEq, ↓stV, stW, Nat.reduceAdd]
      exact ⟨sameBut_trans' s612 s13, w0, w1, w2, -z, b13, hw12.st k12 rfl s13 b13, best_neg hbest⟩
    rintro o ⟨F, inr⟩ S13 ⟨rfl, s13, p4, p5, w0, w1, w2, z, b13, hw, hbest⟩
    simp only at p4 p5
    try simp only [↓stU, stD, Nat.reduceEqDiff, ↓reduceIte, reduceCtorEq]
    refine wpc_ret ?_
    simp only [↓stU, stD, Nat.reduceEqDiff, ↓reduceIte, reduceCtorEq, results_cell, p4, p5, ld3 b13]
    exact ⟨_, z, rfl, hw, hbest, s13.same e6 (by omega)⟩
  have hs : ¬ sgn q = 0 := by unfold sgn; split <;> (try split) <;> omega
  refine wpc_if (t := false) (by simp only [↓stU, stD, Nat.reduceEqDiff, ↓reduceIte, reduceCtorEq, decide_eq_false hs]) (fun h => by cases h) (fun _ => wpc_skip ?_)
  simp only [↓stU, stD, Nat.reduceEqDiff, ↓reduceIte, reduceCtorEq]
  refine wpc_seq (wpc_reg ?_)
  refine wpo_call ?_
  simp only [↓stU, stD, Nat.reduceEqDiff, ↓reduceIte, reduceCtorEq]
  refine wpf_mono (zero_spec H) ?_
  rintro w S7 ⟨hw, s7⟩
  obtain ⟨w0, w1, w2, rfl⟩ := hw.cells
  try simp only [↓stU, stD, Nat.reduceEqDiff, ↓reduceIte, reduceCtorEq]
  have k7 : S7.h.get S2.nx = some (.cells [.bool false, .nilsl, .nilsl] false 0) := by rw [s7.2 _ (by omega)]; exact i3
  refine wpo_st (b := S2.nx) (by simp only [↓stU, stD, Nat.reduceEqDiff, ↓reduceIte, reduceCtorEq]) (by simp only [↓stU, stD, Nat.reduceEqDiff, ↓reduceIte, reduceCtorEq, cells_agg]; rfl) k7 rfl rfl ?_
  intro S8 s8 n8 b8
  simp only [↓stU, stD, Nat.reduceEqDiff, ↓reduceIte, reduceCtorEq]
  refine wpc_ret ?_
  simp only [↓stU, stD, Nat.reduceEqDiff, ↓reduceIte, reduceCtorEq, results_cell, ld3 b8]
  refine ⟨_, 0, rfl, hw.st k7 rfl s8 b8, best_zero ?_ ?_, s8.same (e6.trans s7) (by omega)⟩
  · rw [le_num]; show p.num * 1 ≤ 0 * (p.den : Int); omega
  · rw [le_num]; show 0 * (q.den : Int) ≤ q.num * 1; omega
end Go.Ev.Gl

namespace Go.Ev.Gl
variable {fns : T AFn}

/-! ## A store into a block that holds no limbs -/
def noU : List AV → Bool
  | [] => true
  | .int .u32 _ :: _ => false
  | _ :: l => noU l
theorem noU_get : ∀ {cs : List AV} {i : Nat} {n : Int}, noU cs = true → cs[i]? ≠ some (.int .u32 n)
  | [], _, _, _ => by simp
  | x :: l, 0, n, h => by
    intro e
    simp at e
    subst e
    simp [noU] at h
  | x :: l, i + 1, n, h => by
    rw [List.getElem?_cons_succ]
    refine noU_get (cs := l) ?_
    cases x with
    | int k m => cases k <;> first | exact h | (simp [noU] at h)
    | _ => exact h
theorem LimbIs.stU {S S' : St} {v : AV} {l : List Nat} {b : Nat} {cs cs' : List AV} {o o' : Bool} {s s' : Nat} (h : LimbIs S v l) (hb : S.h.get b = some (.cells cs o s)) (hn : noU cs = true) (hs : SameBut b S S') (hb' : S'.h.get b = some (.cells cs' o' s')) : LimbIs S' v l := by
  rcases h with h | ⟨b1, off, cap, o1, cs1, rfl, hc, hlt, hcs, hel⟩
  · exact .inl h
  · by_cases e : b1 = b
    · subst e
      have h0 : l = [] := by
        cases l with
        | nil => rfl
        | cons x l =>
          have := hel 0 (Int.ofNat x) (by simp)
          unfold cellsAt at hcs
          rw [hb, osel_some] at hcs
          cases hcs
          exact absurd this (noU_get hn)
      subst h0
      refine .inr ⟨b1, off, cap, o1, cs', rfl, hc, Nat.lt_of_lt_of_le hlt hs.1, by unfold cellsAt; rw [hb', osel_some]; rfl, fun i x hi => by simp at hi⟩
    · refine .inr ⟨b1, off, cap, o1, cs1, rfl, hc, Nat.lt_of_lt_of_le hlt hs.1, ?_, hel⟩
      unfold cellsAt at hcs ⊢
      rw [hs.2 _ hlt e]
      exact hcs
theorem NatIs.stU {S S' : St} {v : AV} {n : Nat} {b : Nat} {cs cs' : List AV} {o o' : Bool} {s s' : Nat} (h : NatIs S v n) (hb : S.h.get b = some (.cells cs o s)) (hn : noU cs = true) (hs : SameBut b S S') (hb' : S'.h.get b = some (.cells cs' o' s')) : NatIs S' v n := by
  obtain ⟨l, h1, h2, h3⟩ := h
  exact ⟨l, h1.stU hb hn hs hb', h2, h3⟩
theorem RatIs.stU {S S' : St} {v : AV} {q : Rat} {b : Nat} {cs cs' : List AV} {o o' : Bool} {s s' : Nat} (h : RatIs S v q) (hb : S.h.get b = some (.cells cs o s)) (hn : noU cs = true) (hs : SameBut b S S') (hb' : S'.h.get b = some (.cells cs' o' s')) : RatIs S' v q := by
  obtain ⟨nv, dv, h1, h2, h3⟩ := h
  exact ⟨nv, dv, h1, h2.stU hb hn hs hb', h3.stU hb hn hs hb'⟩

/-! ## Remainders -/
theorem bin_rem_t (e : EqT) {a b : Int} (hb : b ≠ 0) : binV .rem e (.int .i64 a) (.int .i64 b) = some (.int .i64 (a.tmod b)) := by
  show intsBin .rem .i64 a .i64 b = _
  unfold intsBin
  rw [show isShift .rem = false from rfl, bsel_false, keq_refl, bsel_true]
  show iRem .i64 a b = _
  unfold iRem
  split
  · rename_i m n
    have h0 : Nat.beq n 0 = false := by
      rw [Bool.eq_false_iff]; intro h; rw [Nat.beq_eq] at h; subst h; exact hb rfl
    rw [h0, bsel_false]
    rfl
  · have h0 : ieq b (.ofNat 0) = false := by
      rw [Bool.eq_false_iff]; intro h; rw [ieq_eq] at h; exact hb (by simpa using h)
    rw [h0, bsel_false]

theorem mod_bnd {S : St} {a b : Int} (H : Has fns) (hb : 0 < b) (hb' : b ≤ 4611686018427387903) : wpf fns (.fn 34 [] []) [.int .i64 a, .int .i64 b] S fun r S' => (∃ z : Nat, r = .int .i64 (z : Int) ∧ (z : Int) < b) ∧ S' = S := by
  have hz := bin_rem_t (.p .int) (a := a) (b := b) (by omega)
  have l1 := Int.lt_tmod_of_pos a hb
  have l2 := Int.tmod_lt_of_pos a hb
  generalize a.tmod b = z at hz l1 l2
  refine wpf_fn H.f34 (by simp) ?_
  simp only [↓stU, stD, Nat.reduceEqDiff, ↓reduceIte, reduceCtorEq]
  refine wpc_seq (wpc_reg ?_)
  simp only [↓stU, stD, Nat.reduceEqDiff, ↓reduceIte, reduceCtorEq]
  refine wpc_seq (wpc_reg ?_)
  simp only [↓stU, stD, Nat.reduceEqDiff, ↓reduceIte, reduceCtorEq, hz]
  refine wpc_seq (wpc_seq (wpc_reg ?_))
  simp only [↓stU, stD, Nat.reduceEqDiff, ↓reduceIte, reduceCtorEq]
  by_cases h0 : z < 0
  · refine wpc_if (t := true) (by simp only [↓stU, stD, Nat.reduceEqDiff, ↓reduceIte, reduceCtorEq, decide_eq_true h0]) (fun _ => wpc_reg ?_) (fun h => by cases h)
    have w : IntKind.i64.wrap (z + b) = z + b := wrap_i64 (by omega) (by omega)
    simp only [↓stU, stD, Nat.reduceEqDiff, ↓reduceIte, reduceCtorEq, w]
    refine wpc_seq (wpc_reg ?_)
    simp only [↓stU, stD, Nat.reduceEqDiff, ↓reduceIte, reduceCtorEq]
    refine wpc_ret ?_
    simp only [↓stU, stD, Nat.reduceEqDiff, ↓reduceIte, reduceCtorEq]
    exact ⟨(z + b).toNat, by rw [Int.toNat_of_nonneg (by omega)], by omega⟩
  · refine wpc_if (t := false) (by simp only [↓stU, stD, Nat.reduceEqDiff, ↓reduceIte, reduceCtorEq, decide_eq_false h0]) (fun h => by cases h) (fun _ => wpc_skip ?_)
    simp only [↓stU, stD, Nat.reduceEqDiff, ↓reduceIte, reduceCtorEq]
    refine wpc_seq (wpc_reg ?_)
    simp only [↓stU, stD, Nat.reduceEqDiff, ↓reduceIte, reduceCtorEq]
    refine wpc_ret ?_
    simp only [↓stU, stD, Nat.reduceEqDiff, ↓reduceIte, reduceCtorEq]
    exact ⟨z.toNat, by rw [Int.toNat_of_nonneg (by omega)], by omega⟩
end Go.Ev.Gl

namespace Go.Ev.Gl
variable {fns : T AFn}

/-! ## Draws -/
def DrawsAt (S : St) (bd : Nat) (slv : AV) (zs : List Int) (pos : Nat) : Prop :=
  S.h.get bd = some (.cells [slv, .int .i64 (pos : Int)] false 0) ∧ IsSl .i64 S slv zs ∧ (∀ b off len cap o, slv = .sl b off len cap o → b ≠ bd) ∧ bd < S.nx
theorem DrawsAt.same {S S' : St} {bd : Nat} {slv : AV} {zs : List Int} {pos : Nat} (h : DrawsAt S bd slv zs pos) (hs : Same S S') : DrawsAt S' bd slv zs pos := ⟨by rw [hs.2 _ h.2.2.2]; exact h.1, h.2.1.same hs, h.2.2.1, Nat.lt_of_lt_of_le h.2.2.2 hs.1⟩
theorem isSl_but {S S' : St} {bd : Nat} {slv : AV} {zs : List Int} (h : IsSl .i64 S slv zs) (hne : ∀ b off len cap o, slv = .sl b off len cap o → b ≠ bd) (hs : SameBut bd S S') : IsSl .i64 S' slv zs := by
  rcases h with h | ⟨b, off, cap, o, cs, h1, hc, h2, h3, h4⟩
  · exact .inl h
  · refine .inr ⟨b, off, cap, o, cs, h1, hc, Nat.lt_of_lt_of_le h2 hs.1, ?_, h4⟩
    unfold cellsAt at h3 ⊢
    rw [hs.2 b h2 (hne _ _ _ _ _ h1)]
    exact h3
theorem sl_self {S : St} {v : AV} {l : List Int} {k : IntKind} (h : IsSl k S v l) : sameV v v = true := by
  rcases h with ⟨_, h | h⟩ | ⟨b, off, cap, o, cs, rfl, _⟩
  · subst h; rfl
  · subst h; rfl
  · exact same_sl ..
theorem evQ_nilchk (x : Opd) (F : Fr) (h : T AB) : evQ (.nilchk x) F h = nilchkV (x.val F) := rfl
theorem isLoad_nilchk (x : Opd) : isLoad (.nilchk x) = false := rfl
theorem nilchk_ptr (b o : Nat) : nilchkV (.ptr b o) = some (.ptr b o) := rfl
section
variable {h : T AB} {b : Nat} {x y : AV} {o : Bool} {s : Nat}
theorem ld2_0 (hb : h.get b = some (.cells [x, y] o s)) : qLdV (.ptr b (0 + 0)) false 1 h = some x := by
  simp only [qLdV, loadV, bsel_false, load1, cellsAt, hb, osel_some, cellsOfB, nth_eq]; rfl
theorem ld2_1 (hb : h.get b = some (.cells [x, y] o s)) : qLdV (.ptr b (0 + 1)) false 1 h = some y := by
  simp only [qLdV, loadV, bsel_false, load1, cellsAt, hb, osel_some, cellsOfB, nth_eq]; rfl
end
theorem xst2 {S : St} {b : Nat} {x y v : AV} {o : Bool} {s : Nat} (h : S.h.get b = some (.cells [x, y] o s)) : xStV (.ptr b (0 + 1)) 1 [v] S = some (.undef, ⟨S.h.set b (some (.cells [x, v] o s)), S.nx⟩) := by
  have hp : put [x, y] (0 + 1) [v] = some [x, v] := by rw [put_eq]; rfl
  simp only [xStV, storeN, h, osel_some, storeB, hp]
  rfl

theorem next_spec {S : St} {bd pos : Nat} {slv : AV} {zs : List Int} {n : Int} (H : Has fns) (hd : DrawsAt S bd slv zs pos) (hpos : pos ≤ 1000) (hn : 0 < n) (hn' : n ≤ 4611686018427387903) :
    wpf fns (.fn 17 [] []) [.ptr bd 0, .int .i64 n] S fun r S' => (∃ z : Nat, r = .int .i64 (z : Int) ∧ (z : Int) < n) ∧ ∃ pos', pos' ≤ pos + 1 ∧ DrawsAt S' bd slv zs pos' ∧ SameBut bd S S' := by
  obtain ⟨h1, h2, h3, h4⟩ := id hd
  have hself := sl_self h2
  have hlen := h2.len
  refine wpf_fn H.f17 (by simp) ?_
  simp only [↓stU, stD, Nat.reduceEqDiff, ↓reduceIte, reduceCtorEq]
  refine wpc_seq (wpc_reg ?_)
  simp only [↓stU, stD, Nat.reduceEqDiff, ↓reduceIte, reduceCtorEq]
  refine wpc_seq (wpc_seq (wpc_mono (Q := fun o A' S' => o = .normal ∧ Same S S' ∧ A'.inr = false ∧ tmpV 0 A'.F = .ptr bd 0 ∧ tmpV 1 A'.F = .int .i64 n ∧ tmpV 18 A'.F = .bool (decide (zs.length ≤ pos))) ?_ ?_))
  · refine wpc_drd1 (fun _ => False) ?_
    intro S1 s1
    by_cases hc : zs.length ≤ pos
    · have d1 : decide ((zs.length : Int) ≤ (pos : Int)) = true := decide_eq_true (by omega)
      simp only [↓stU, stD, Nat.reduceEqDiff, ↓reduceIte, reduceCtorEq, ↓stV, stW, Nat.reduceAdd, evQ_nilchk, isLoad_nilchk, nilchk_ptr, evQ_faddr, isLoad_faddr, faddr_ptr, ld2_0 h1, ld2_1 h1, h4, not_false_eq_true, hself, hlen, d1, decide_eq_true hc]
      exact s1
    · have d1 : decide ((zs.length : Int) ≤ (pos : Int)) = false := decide_eq_false (by omega)
      have d2 : decide (n < 1) = false := decide_eq_false (by omega)
      simp only [↓stU, stD, Nat.reduceEqDiff, ↓reduceIte, reduceCtorEq, ↓stV, stW, Nat.reduceAdd, evQ_nilchk, isLoad_nilchk, nilchk_ptr, evQ_faddr, isLoad_faddr, faddr_ptr, ld2_0 h1, ld2_1 h1, h4, not_false_eq_true, hself, hlen, d1, d2, decide_eq_false hc]
      exact s1
  rintro o ⟨F, inr⟩ S1 ⟨rfl, s1, q0, p0, p1, p18⟩
  simp only at q0 p0 p1 p18
  subst q0
  try simp only [↓stU, stD, Nat.reduceEqDiff, ↓reduceIte, reduceCtorEq]
  have hd1 := hd.same s1
  obtain ⟨g1, g2, g3, g4⟩ := id hd1
  by_cases hc : zs.length ≤ pos
  · refine wpc_if (t := true) (by simp only [↓stU, stD, Nat.reduceEqDiff, ↓reduceIte, reduceCtorEq, p18, decide_eq_true hc]) (fun _ => ?_) (fun h => by cases h)
    refine wpc_seq (wpc_reg ?_)
    simp only [↓stU, stD, Nat.reduceEqDiff, ↓reduceIte, reduceCtorEq]
    refine wpc_ret ?_
    simp only [↓stU, stD, Nat.reduceEqDiff, ↓reduceIte, reduceCtorEq]
    exact ⟨⟨0, rfl, hn⟩, pos, by omega, hd1, ⟨s1.1, fun c hc _ => s1.2 c hc⟩⟩
  refine wpc_if (t := false) (by simp only [↓stU, stD, Nat.reduceEqDiff, ↓reduceIte, reduceCtorEq, p18, decide_eq_false hc]) (fun h => by cases h) (fun _ => wpc_skip ?_)
  simp only [↓stU, stD, Nat.reduceEqDiff, ↓reduceIte, reduceCtorEq]
  refine wpc_seq (wpc_reg ?_)
  have w1 : IntKind.i64.wrap ((pos : Int) + 1) = ((pos + 1 : Nat) : Int) := by rw [wrap_i64 (by omega) (by omega)]; omega
  simp only [↓stU, stD, Nat.reduceEqDiff, ↓reduceIte, reduceCtorEq, p0, evQ_nilchk, nilchk_ptr, evQ_faddr, faddr_ptr, ld2_1 g1, w1]
  refine wpo_x (fun call => by simp only [↓stU, stD, Nat.reduceEqDiff, ↓reduceIte, reduceCtorEq, evX_st, cells_int]; exact xst2 g1) ?_
  have s2 : SameBut bd S1 ⟨S1.h.set bd (some (.cells [slv, .int .i64 ((pos + 1 : Nat) : Int)] false 0)), S1.nx⟩ := (SameBut.refl bd S1).put _
  have b2 : (⟨S1.h.set bd (some (.cells [slv, .int .i64 ((pos + 1 : Nat) : Int)] false 0)), S1.nx⟩ : St).h.get bd = some (.cells [slv, .int .i64 ((pos + 1 : Nat) : Int)] false 0) := by simp only; rw [T.get_set, if_pos rfl]
  have n2 : (⟨S1.h.set bd (some (.cells [slv, .int .i64 ((pos + 1 : Nat) : Int)] false 0)), S1.nx⟩ : St).nx = S1.nx := rfl
  generalize (⟨S1.h.set bd (some (.cells [slv, .int .i64 ((pos + 1 : Nat) : Int)] false 0)), S1.nx⟩ : St) = S2 at s2 b2 n2
  simp only [↓stU, stD, Nat.reduceEqDiff, ↓reduceIte, reduceCtorEq]
  have i2 := isSl_but g2 g3 s2
  have hd2 : DrawsAt S2 bd slv zs (pos + 1) := ⟨b2, i2, g3, by omega⟩
  have t2 : bd < S2.nx := by omega
  have hia := i2.iaddr (i := pos) (by omega)
  have hld := i2.ld (i := pos) (by omega)
  have w2 : IntKind.i64.wrap (((pos + 1 : Nat) : Int) - 1) = (pos : Int) := by rw [wrap_i64 (by omega) (by omega)]; omega
  -- the element's place
  obtain ⟨eb, eo, hep, hel⟩ : ∃ eb eo, elemP slv pos = .ptr eb eo ∧ eb < S2.nx := by
    rcases i2 with ⟨h0, _⟩ | ⟨b, off, cap, o, cs, h1, hc, hb, _⟩
    · subst h0; simp at hc
    · exact ⟨b, off + pos * 1, by rw [h1]; rfl, hb⟩
  rw [hep] at hia hld
  refine wpc_seq (wpc_mono (Q := fun o A' S' => o = .normal ∧ Same S2 S' ∧ ∃ z : Nat, tmpV 4 A'.F = .int .i64 (z : Int) ∧ (z : Int) < n) ?_ ?_)
  · refine wpc_drd1 (fun _ => False) ?_
    intro S3 s3
    simp only [↓stU, stD, Nat.reduceEqDiff, ↓reduceIte, reduceCtorEq, ↓stV, stW, Nat.reduceAdd, p0, p1, evQ_nilchk, isLoad_nilchk, nilchk_ptr, evQ_faddr, isLoad_faddr, faddr_ptr, ld2_0 b2, ld2_1 b2, t2, not_false_eq_true, hself, w2, hia, hld, hel]
    refine runD_call0 rfl ?_
    try simp only [↓stU, stD, Nat.reduceEqDiff, ↓reduceIte, reduceCtorEq, ↓stV, stW, Nat.reduceAdd]
    refine wpf_mono (mod_bnd H hn hn') ?_
    rintro _ T ⟨⟨z, rfl, hz⟩, hT⟩
    rw [hT]
    refine ⟨Same.refl _, ?_⟩
    try simp only [↓stU, stD, Nat.reduceEqDiff, ↓reduceIte, reduceCtorEq, ↓stV, stW, Nat.reduceAdd]
    exact ⟨s3, z, rfl, hz⟩
  rintro o ⟨F, inr⟩ S3 ⟨rfl, s3, z, p4, hz⟩
  simp only at p4
  try simp only [↓stU, stD, Nat.reduceEqDiff, ↓reduceIte, reduceCtorEq]
  refine wpc_ret ?_
  simp only [↓stU, stD, Nat.reduceEqDiff, ↓reduceIte, reduceCtorEq, p4]
  refine ⟨⟨z, rfl, hz⟩, pos + 1, Nat.le_refl _, hd2.same s3, ⟨Nat.le_trans s1.1 (Nat.le_trans s2.1 s3.1), fun c hc hne => ?_⟩⟩
  have := s1.1
  rw [s3.2 c (by omega), s2.2 c (by omega) hne, s1.2 c hc]
end Go.Ev.Gl

namespace Go.Ev.Gl
variable {fns : T AFn}

/-- a number with parts of at most 20 -/
def SmallR (q : Rat) : Prop := q.num.natAbs ≤ 20 ∧ q.den ≤ 20
theorem SmallR.bnd {q : Rat} (h : SmallR q) : Bnd 1 q := by
  have hB : B = 1000000000 := rfl
  refine ⟨?_, ?_⟩ <;> rw [Nat.pow_one] <;> have := h.1 <;> have := h.2 <;> omega
theorem smallR_mk {a : Int} {b : Nat} (ha : a.natAbs ≤ 20) (hb0 : 0 < b) (hb : b ≤ 20) : SmallR (mkRat a b) := by
  obtain ⟨h1, h2⟩ := mkRat_le (n := a) (d := b) (by omega)
  exact ⟨Nat.le_trans h1 ha, Nat.le_trans h2 hb⟩
theorem SameBut.tr {b : Nat} {S S' S'' : St} (h : SameBut b S S') (h' : SameBut b S' S'') : SameBut b S S'' := h.trans h'
theorem Same.but {S S' : St} (h : Same S S') (b : Nat) : SameBut b S S' := ⟨h.1, fun c hc _ => h.2 c hc⟩

theorem rational_spec {S : St} {bd pos : Nat} {slv : AV} {zs : List Int} (H : Has fns) (hd : DrawsAt S bd slv zs pos) (hpos : pos ≤ 900) :
    wpf fns (.fn 15 [] []) [.ptr bd 0, .int .i64 20] S fun r S' => ∃ q, RatIs S' r q ∧ SmallR q ∧ ∃ pos', pos' ≤ pos + 2 ∧ DrawsAt S' bd slv zs pos' ∧ SameBut bd S S' := by
  refine wpf_fn H.f15 (by simp) ?_
  simp only [↓stU, stD, Nat.reduceEqDiff, ↓reduceIte, reduceCtorEq]
  refine wpc_seq (wpc_reg ?_)
  refine wpo_alloc ?_
  intro S1 hS1 hn1 hc1
  simp only [↓stU, stD, Nat.reduceEqDiff, ↓reduceIte, reduceCtorEq]
  have hbd := hd.2.2.2
  have w1 : IntKind.i64.wrap (2 * 20) = 40 := by decide
  have w2 : IntKind.i64.wrap (40 + 1) = 41 := by decide
  refine wpc_seq (wpc_reg ?_)
  simp only [↓stU, stD, Nat.reduceEqDiff, ↓reduceIte, reduceCtorEq, w1, w2]
  refine wpo_call ?_
  simp only [↓stU, stD, Nat.reduceEqDiff, ↓reduceIte, reduceCtorEq]
  refine wpf_mono (next_spec (n := 41) H (hd.same hS1) (by omega) (by omega) (by omega)) ?_
  rintro _ S2 ⟨⟨z1, rfl, hz1⟩, pos1, hp1, hd2, s2⟩
  have w3 : IntKind.i64.wrap ((z1 : Int) - 20) = (z1 : Int) - 20 := wrap_i64 (by omega) (by omega)
  simp only [↓stU, stD, Nat.reduceEqDiff, ↓reduceIte, reduceCtorEq, w3]
  refine wpo_call ?_
  simp only [↓stU, stD, Nat.reduceEqDiff, ↓reduceIte, reduceCtorEq]
  refine wpf_mono (next_spec (n := 20) H hd2 (by omega) (by omega) (by omega)) ?_
  rintro _ S3 ⟨⟨z2, rfl, hz2⟩, pos2, hp2, hd3, s3⟩
  have w4 : IntKind.i64.wrap (1 + (z2 : Int)) = ((1 + z2 : Nat) : Int) := by rw [wrap_i64 (by omega) (by omega)]; omega
  simp only [↓stU, stD, Nat.reduceEqDiff, ↓reduceIte, reduceCtorEq, w4]
  refine wpo_call ?_
  simp only [↓stU, stD, Nat.reduceEqDiff, ↓reduceIte, reduceCtorEq]
  refine wpf_mono (ratOf_spec (a := (z1 : Int) - 20) (b := 1 + z2) H (by omega) (by omega) (by omega)) ?_
  rintro w S4 ⟨hw, s4⟩
  obtain ⟨w0, w1, w2, rfl⟩ := hw.cells
  try simp only [↓stU, stD, Nat.reduceEqDiff, ↓reduceIte, reduceCtorEq]
  have l2 := s2.1
  have l3 := s3.1
  have g4 : S4.h.get S.nx = some (.cells [.bool false, .nilsl, .nilsl] false 0) := by
    rw [s4.2 _ (by omega), s3.2 _ (by omega) (by omega), s2.2 _ (by omega) (by omega)]; exact hc1
  refine wpo_st (b := S.nx) (by simp only [↓stU, stD, Nat.reduceEqDiff, ↓reduceIte, reduceCtorEq]) (by simp only [↓stU, stD, Nat.reduceEqDiff, ↓reduceIte, reduceCtorEq, cells_agg]; rfl) g4 rfl rfl ?_
  intro S5 s5 n5 b5
  simp only [↓stU, stD, Nat.reduceEqDiff, ↓reduceIte, reduceCtorEq]
  refine wpc_ret ?_
  simp only [↓stU, stD, Nat.reduceEqDiff, ↓reduceIte, reduceCtorEq, results_cell, ld3 b5]
  have hd4 := hd3.same s4
  refine ⟨_, hw.st g4 rfl s5 b5, smallR_mk (by omega) (by omega) (by omega), pos2, by omega, ?_, ?_⟩
  · obtain ⟨k1, k2, k3, k4⟩ := hd4
    refine ⟨by rw [s5.2 _ k4 (by omega)]; exact k1, ?_, k3, by omega⟩
    rcases k2 with h | ⟨b, off, cap, o, cs, h1, hc, h2, h3, h4⟩
    · exact .inl h
    · refine .inr ⟨b, off, cap, o, cs, h1, hc, by omega, ?_, h4⟩
      have hbS : b < S.nx := by
        rcases hd.2.1 with ⟨h0, h⟩ | ⟨b', off', cap', o', cs', h1', hc', h2', _⟩
        · rcases h with h | h <;> rw [h] at h1 <;> cases h1
        · rw [h1'] at h1; cases h1; exact h2'
      unfold cellsAt at h3 ⊢
      rw [s5.2 _ h2 (by omega)]
      exact h3
  · have l4 := s4.1
    have l1 := hS1.1
    refine ⟨by omega, fun c hc hne => ?_⟩
    rw [s5.2 c (by omega) (by omega), s4.2 c (by omega), s3.2 c (by omega) hne, s2.2 c (by omega) hne, hS1.2 c hc]
end Go.Ev.Gl

namespace Go.Ev.Gl
variable {fns : T AFn}

/-! ## RatSimplest -/
theorem noU_draws {S : St} {slv : AV} {zs : List Int} {k : IntKind} (h : IsSl k S slv zs) (z : Int) : noU [slv, .int .i64 z] = true := by
  rcases h with ⟨_, h | h⟩ | ⟨b, off, cap, o, cs, rfl, _⟩
  · subst h; rfl
  · subst h; rfl
  · rfl
theorem RatIs.draws {S S' : St} {v : AV} {q : Rat} {bd pos pos' : Nat} {slv : AV} {zs : List Int} (h : RatIs S v q) (hd : DrawsAt S bd slv zs pos) (hd' : DrawsAt S' bd slv zs pos') (hs : SameBut bd S S') : RatIs S' v q := h.stU hd.1 (noU_draws hd.2.1 _) hs hd'.1
theorem sl_cells {k : IntKind} {S : St} {v : AV} {l : List Int} (h : IsSl k S v l) : v.cells = some [v] := by
  rcases h with ⟨_, h | h⟩ | ⟨b, off, cap, o, cs, rfl, _⟩
  · subst h; rfl
  · subst h; rfl
  · rfl
theorem evQ_b1 {z0 z1 : AV} {x : Opd} {F : Fr} {h : T AB} (h1 : (x.val F).cells = some [x.val F]) : evQ (.build [z0, z1] [(0, 1, x)]) F h = some (.agg [x.val F, z1]) := by
  show osel (fillP [z0, z1] [(0, 1, x.val F)]) (fun cs => some (AV.agg cs)) = _
  simp only [fillP, h1, osel_some]
  rfl
theorem Laid.but {S S' : St} {b : Nat} (h : Laid S) (hs : SameBut b S S') (hb : 4 ≤ b) : Laid S' := by
  obtain ⟨h1, h2, h3⟩ := h
  have := hs.1
  exact ⟨by rw [hs.2 _ (by omega) (by omega)]; exact h1, by rw [hs.2 _ (by omega) (by omega)]; exact h2, by omega⟩
theorem smallR_pos {z : Nat} (hz : z < 20) : SmallR (mkRat (z : Int) 20) := smallR_mk (by omega) (by omega) (by omega)
theorem mk_nonneg (z : Nat) : (0 : Rat) ≤ mkRat (z : Int) 20 := by
  have h : (0 : Rat) ≤ ((z : Int) : Rat) := Rat.intCast_nonneg.2 (by omega)
  rw [Rat.mkRat_eq_div]
  grind
theorem sbut {S S' : St} (h : Same S S') (b : Nat) : SameBut b S S' := ⟨h.1, fun c hc _ => h.2 c hc⟩

theorem one_small {l : List Nat} {d : Nat} (h : Norm l) (hv : val l = d) (h0 : 0 < d) (hd : d < B) : l = [d] := by
  have e : val [d] = d := by simp [val]
  exact norm_inj h ⟨small_one hd, by simp; omega⟩ (by rw [hv, e])
theorem cmpR_le {p q : Rat} (h : p ≤ q) : ¬ 0 < cmpR p q := by
  unfold cmpR
  by_cases h1 : p < q
  · rw [if_pos h1]; decide
  · rw [if_neg h1, if_pos (Rat.le_antisymm h (Rat.not_lt.1 h1))]; decide
theorem le_cmpR {p q : Rat} (h : cmpR p q ≤ 0) : p ≤ q := by
  unfold cmpR at h
  by_cases h1 : p < q
  · exact Rat.le_of_lt h1
  · rw [if_neg h1] at h
    by_cases h2 : p = q
    · rw [h2]; exact Rat.le_refl
    · rw [if_neg h2] at h; omega

theorem limb_place {S : St} {v : AV} {x : Nat} (h : LimbIs S v [x]) : ∃ eb eo, elemP v 0 = .ptr eb eo ∧ eb < S.nx := by
  rcases h with ⟨h0, _⟩ | ⟨b, off, cap, o, cs, h1, hc, hb, _⟩
  · simp at h0
  · exact ⟨b, off + 0 * 1, by rw [h1]; rfl, hb⟩
def SlotsI (S0 : St) (b4 b5 b6 b9 den num : Nat) (A : Act') (T : St) : Prop :=
  A.inr = false ∧ Same S0 T ∧ tmpV 4 A.F = .ptr b4 0 ∧ tmpV 5 A.F = .ptr b5 0 ∧ tmpV 6 A.F = .ptr b6 0 ∧ tmpV 9 A.F = .ptr b9 0 ∧ tmpV 15 A.F = .int .i64 (den : Int) ∧ tmpV 16 A.F = .int .i64 (num : Int)
def OutI (S0 : St) (b4 b5 b6 b9 den num : Nat) (k : Nat) (A : Act') (T : St) : Prop :=
  SlotsI S0 b4 b5 b6 b9 den num A T ∧ ∃ d : Nat, d + k = den + 1 ∧ 1 ≤ d ∧ tmpV 17 A.F = .int .i64 (d : Int)
def InI (S0 : St) (b4 b5 b6 b9 den num d : Nat) (k : Nat) (A : Act') (T : St) : Prop :=
  SlotsI S0 b4 b5 b6 b9 den num A T ∧ tmpV 17 A.F = .int .i64 (d : Int) ∧ ∃ n : Int, n + k = 20 * d + 1 ∧ -(20 * (d : Int)) ≤ n ∧ tmpV 18 A.F = .int .i64 n

set_option maxRecDepth 10000 in
set_option maxHeartbeats 4000000 in
theorem simplest_spec {S : St} {slv : AV} {zs : List Int} (H : Has fns) (hL : Laid S) (hF : Fresh S) (hAw : ∀ S, Laid S → wpf fns (.fn 11 [] []) [] S fun r S' => r = .bool true ∧ Same S S')
    (hz : IsSl .i64 S slv zs) : wpf fns (.fn 4 [] []) [slv] S fun r S' => r = .bool true ∧ Same S S' := by
  have h4 := hL.2.2
  refine wpf_fn H.f4 (by simp) ?_
  simp only [↓stU, stD, Nat.reduceEqDiff, ↓reduceIte, reduceCtorEq]
  refine wpc_seq (wpc_reg ?_)
  simp only [↓stU, stD, Nat.reduceEqDiff, ↓reduceIte, reduceCtorEq]
  refine wpc_seq (wpc_reg ?_)
  simp only [↓stU, stD, Nat.reduceEqDiff, ↓reduceIte, reduceCtorEq, evQ_b1, sl_cells hz]
  refine wpo_boxF (by simp only [↓stU, stD, Nat.reduceEqDiff, ↓reduceIte, reduceCtorEq, cells_agg]; rfl) ?_
  intro S1 s1 n1 c1 fr1
  simp only [↓stU, stD, Nat.reduceEqDiff, ↓reduceIte, reduceCtorEq]
  have hd1 : DrawsAt S1 S.nx slv zs 0 := by
    refine ⟨c1, hz.same s1, fun b off len cap o e => ?_, by omega⟩
    rcases hz with ⟨_, h | h⟩ | ⟨b', off', cap', o', cs, h1, _, h2, _⟩
    · rw [h] at e; cases e
    · rw [h] at e; cases e
    · rw [h1] at e; cases e; omega
  -- three numbers
  refine wpc_seq (wpc_reg ?_)
  simp only [↓stU, stD, Nat.reduceEqDiff, ↓reduceIte, reduceCtorEq]
  refine wpo_call ?_
  simp only [↓stU, stD, Nat.reduceEqDiff, ↓reduceIte, reduceCtorEq]
  refine wpf_mono (wpf_fresh (rational_spec H hd1 (by omega))) ?_
  rintro wa S2 ⟨⟨p, hA, bp, x2, hx2, hd2, s2⟩, fr2⟩
  try simp only [↓stU, stD, Nat.reduceEqDiff, ↓reduceIte, reduceCtorEq]
  refine wpo_call ?_
  simp only [↓stU, stD, Nat.reduceEqDiff, ↓reduceIte, reduceCtorEq]
  refine wpf_mono (wpf_fresh (rational_spec H hd2 (by omega))) ?_
  rintro wb S3 ⟨⟨q, hB, bq, x3, hx3, hd3, s3⟩, fr3⟩
  have hA3 := hA.draws hd2 hd3 s3
  try simp only [↓stU, stD, Nat.reduceEqDiff, ↓reduceIte, reduceCtorEq]
  refine wpo_call ?_
  simp only [↓stU, stD, Nat.reduceEqDiff, ↓reduceIte, reduceCtorEq]
  refine wpf_mono (wpf_fresh (next_spec (n := 20) H hd3 (by omega) (by omega) (by omega))) ?_
  rintro _ S4 ⟨⟨⟨z, rfl, hz20⟩, x4, hx4, hd4, s4⟩, fr4⟩
  have hA4 := hA3.draws hd3 hd4 s4
  have hB4 := hB.draws hd3 hd4 s4
  try simp only [↓stU, stD, Nat.reduceEqDiff, ↓reduceIte, reduceCtorEq]
  refine wpo_call ?_
  simp only [↓stU, stD, Nat.reduceEqDiff, ↓reduceIte, reduceCtorEq]
  refine wpf_mono (wpf_fresh (ratOf_spec (S := S4) (a := (z : Int)) (b := 20) H (by omega) (by omega) (by omega))) ?_
  rintro wc S5 ⟨⟨hC, s5⟩, fr5⟩
  have br : SmallR (mkRat (z : Int) 20) := smallR_pos (by omega)
  have r0 := mk_nonneg z
  generalize mkRat (z : Int) 20 = r at hC br r0
  have hA5 := hA4.same s5
  have hB5 := hB4.same s5
  have hd5 := hd4.same s5
  have e5 : SameBut S.nx S S5 := (sbut s1 S.nx).tr (s2.tr (s3.tr (s4.tr (sbut s5 S.nx))))
  have hL5 : Laid S5 := hL.but e5 h4
  have l5 := e5.1
  obtain ⟨a0, a1, a2, rfl⟩ := hA5.cells
  obtain ⟨b0, b1, b2, rfl⟩ := hB5.cells
  obtain ⟨c0, c1', c2, rfl⟩ := hC.cells
  try simp only [↓stU, stD, Nat.reduceEqDiff, ↓reduceIte, reduceCtorEq]
  refine wpo_allocF ?_
  intro S6 s6 n6 g6 fr6
  refine wpo_allocF ?_
  intro S7 s7 n7 g7 fr7
  refine wpo_allocF ?_
  intro S8 s8 n8 g8 fr8
  have k4 : S8.h.get S5.nx = some (.cells [.bool false, .nilsl, .nilsl] false 0) := by rw [s8.2 _ (by omega), s7.2 _ (by omega)]; exact g6
  have k5 : S8.h.get S6.nx = some (.cells [.bool false, .nilsl, .nilsl] false 0) := by rw [s8.2 _ (by omega)]; exact g7
  refine wpo_stF (b := S5.nx) (by simp only [↓stU, stD, Nat.reduceEqDiff, ↓reduceIte, reduceCtorEq]) (by simp only [↓stU, stD, Nat.reduceEqDiff, ↓reduceIte, reduceCtorEq, cells_agg]; rfl) k4 rfl rfl ?_
  intro S9 s9 n9 g9 fr9
  have k5' : S9.h.get S6.nx = some (.cells [.bool false, .nilsl, .nilsl] false 0) := by rw [s9.2 _ (by omega) (by omega)]; exact k5
  refine wpo_stF (b := S6.nx) (by simp only [↓stU, stD, Nat.reduceEqDiff, ↓reduceIte, reduceCtorEq]) (by simp only [↓stU, stD, Nat.reduceEqDiff, ↓reduceIte, reduceCtorEq, cells_agg]; rfl) k5' rfl rfl ?_
  intro S10 s10 n10 g10 fr10
  have k6 : S10.h.get S7.nx = some (.cells [.bool false, .nilsl, .nilsl] false 0) := by rw [s10.2 _ (by omega) (by omega), s9.2 _ (by omega) (by omega)]; exact g8
  refine wpo_stF (b := S7.nx) (by simp only [↓stU, stD, Nat.reduceEqDiff, ↓reduceIte, reduceCtorEq]) (by simp only [↓stU, stD, Nat.reduceEqDiff, ↓reduceIte, reduceCtorEq, cells_agg]; rfl) k6 rfl rfl ?_
  intro S11 s11 n11 g11 fr11
  simp only [↓stU, stD, Nat.reduceEqDiff, ↓reduceIte, reduceCtorEq]
  have gA : S11.h.get S5.nx = some (.cells [a0, a1, a2] false 0) := by rw [s11.2 _ (by omega) (by omega), s10.2 _ (by omega) (by omega)]; exact g9
  have gB : S11.h.get S6.nx = some (.cells [b0, b1, b2] false 0) := by rw [s11.2 _ (by omega) (by omega)]; exact g10
  have s58 := s6.trans (s7.trans s8)
  have s511 : Same S5 S11 := ⟨by omega, fun c hc => by rw [s11.2 c (by omega) (by omega), s10.2 c (by omega) (by omega), s9.2 c (by omega) (by omega), s58.2 c hc]⟩
  have hA11 := hA5.same s511
  have hB11 := hB5.same s511
  have hC11 := hC.same s511
  have hL11 := hL5.same s511
  have hF11 : Fresh S11 := fr11.1 (fr10.1 (fr9.1 (fr8.1 (fr7.1 (fr6.1 (fr5.1 (fr4.1 (fr3.1 (fr2.1 (fr1.1 hF))))))))))
  have e11 : SameBut S.nx S S11 := e5.tr (sbut s511 S.nx)
  have ip : InBound p := bp.bnd.inBound (by decide)
  have iq : InBound q := bq.bnd.inBound (by decide)
  have ir : InBound r := br.bnd.inBound (by decide)
  -- in order
  refine wpc_seq (wpc_reg ?_)
  simp only [↓stU, stD, Nat.reduceEqDiff, ↓reduceIte, reduceCtorEq, ld3 gA, ld3 gB]
  refine wpo_call ?_
  simp only [↓stU, stD, Nat.reduceEqDiff, ↓reduceIte, reduceCtorEq]
  refine wpf_mono (wpf_fresh (rcmp_spec H hL11 hA11 hB11 ip iq)) ?_
  rintro _ S12 ⟨⟨rfl, s12⟩, fr12⟩
  simp only [↓stU, stD, Nat.reduceEqDiff, ↓reduceIte, reduceCtorEq, ex0, ex1]
  have l12 := s12.1
  have gA12 : S12.h.get S5.nx = some (.cells [a0, a1, a2] false 0) := by rw [s12.2 _ (by omega)]; exact gA
  have gB12 : S12.h.get S6.nx = some (.cells [b0, b1, b2] false 0) := by rw [s12.2 _ (by omega)]; exact gB
  have gC12 : S12.h.get S7.nx = some (.cells [c0, c1', c2] false 0) := by rw [s12.2 _ (by omega)]; exact g11
  have hA12 := hA11.same s12
  have hB12 := hB11.same s12
  have hC12 := hC11.same s12
  have e12 : Same S S12 := ⟨by have := e11.1; omega, fun c hc => by rw [s12.2 c (by have := e11.1; omega), e11.2 c hc (by omega)]⟩
  refine wpc_seq (wpc_mono (wpc_fresh (Q := fun o A' T => o = .normal ∧ A'.inr = false ∧ Same S T ∧ S12.nx ≤ T.nx ∧ tmpV 4 A'.F = .ptr S5.nx 0 ∧ tmpV 5 A'.F = .ptr S6.nx 0 ∧ tmpV 6 A'.F = .ptr S7.nx 0 ∧ tmpV 8 A'.F = .int .i64 0 ∧
    ∃ p q, p ≤ q ∧ SmallR p ∧ SmallR q ∧ ∃ a0 a1 a2 b0 b1 b2, T.h.get S5.nx = some (.cells [a0, a1, a2] false 0) ∧ T.h.get S6.nx = some (.cells [b0, b1, b2] false 0) ∧ T.h.get S7.nx = some (.cells [c0, c1', c2] false 0) ∧ RatIs T (.agg [a0, a1, a2]) p ∧ RatIs T (.agg [b0, b1, b2]) q ∧ RatIs T (.agg [c0, c1', c2]) r) ?_) ?_)
  · refine wpc_seq (wpc_reg ?_)
    simp only [↓stU, stD, Nat.reduceEqDiff, ↓reduceIte, reduceCtorEq]
    by_cases hgt : 0 < cmpR p q
    · refine wpc_if (t := true) (by simp only [↓stU, stD, Nat.reduceEqDiff, ↓reduceIte, reduceCtorEq, decide_eq_true hgt]) (fun _ => wpc_reg ?_) (fun h => by cases h)
      simp only [↓stU, stD, Nat.reduceEqDiff, ↓reduceIte, reduceCtorEq, ld3 gA12, ld3 gB12]
      refine wpo_st (b := S5.nx) (by simp only [↓stU, stD, Nat.reduceEqDiff, ↓reduceIte, reduceCtorEq]) (by simp only [↓stU, stD, Nat.reduceEqDiff, ↓reduceIte, reduceCtorEq, cells_agg]; rfl) gA12 rfl rfl ?_
      intro S13 s13 n13 g13
      have gB13 : S13.h.get S6.nx = some (.cells [b0, b1, b2] false 0) := by rw [s13.2 _ (by omega) (by omega)]; exact gB12
      refine wpo_st (b := S6.nx) (by simp only [↓stU, stD, Nat.reduceEqDiff, ↓reduceIte, reduceCtorEq]) (by simp only [↓stU, stD, Nat.reduceEqDiff, ↓reduceIte, reduceCtorEq, cells_agg]; rfl) gB13 rfl rfl ?_
      intro S14 s14 n14 g14
      simp only [↓stU, stD, Nat.reduceEqDiff, ↓reduceIte, reduceCtorEq]
      have hni := noInt_rat hA12
      have hnj := noInt_rat hB12
      have qp : q ≤ p := by
        unfold cmpR at hgt
        by_cases h : p < q
        · rw [if_pos h] at hgt; omega
        · exact Rat.not_lt.1 h
      refine ⟨⟨by have := e12.1; omega, fun c hc => by have := e12.1; rw [s14.2 c (by omega) (by omega), s13.2 c (by omega) (by omega), e12.2 c hc]⟩, by omega, q, p, qp, bq, bp, b0, b1, b2, a0, a1, a2, ?_, g14, ?_, ?_, ?_, ?_⟩
      · rw [s14.2 _ (by omega) (by omega)]; exact g13
      · rw [s14.2 _ (by omega) (by omega), s13.2 _ (by omega) (by omega)]; exact gC12
      · exact (hB12.st gA12 hni s13 g13).st gB13 hnj s14 g14
      · exact (hA12.st gA12 hni s13 g13).st gB13 hnj s14 g14
      · exact (hC12.st gA12 hni s13 g13).st gB13 hnj s14 g14
    · refine wpc_if (t := false) (by simp only [↓stU, stD, Nat.reduceEqDiff, ↓reduceIte, reduceCtorEq, decide_eq_false hgt]) (fun h => by cases h) (fun _ => wpc_skip ?_)
      simp only [↓stU, stD, Nat.reduceEqDiff, ↓reduceIte, reduceCtorEq]
      have pq : p ≤ q := by
        unfold cmpR at hgt
        by_cases h : p < q
        · exact Rat.le_of_lt h
        · rw [if_neg h] at hgt
          by_cases h' : p = q
          · rw [h']; exact Rat.le_refl
          · rw [if_neg h'] at hgt; omega
      exact ⟨e12, Nat.le_refl _, p, q, pq, bp, bq, a0, a1, a2, b0, b1, b2, gA12, gB12, gC12, hA12, hB12, hC12⟩
  clear hA hA3 hA4 hA5 hA11 hA12 hB hB4 hB5 hB11 hB12 ip iq bp bq gA gB gA12 gB12
  rintro o ⟨F, inr⟩ S14 ⟨⟨rfl, q0, e14, l14, p4, p5, p6, p8, p, q, hpq, bp, bq, a0, a1, a2, b0, b1, b2, gA, gB, gC, hA, hB, hC14⟩, fr14⟩
  simp only at q0 p4 p5 p6 p8
  subst q0
  try simp only [↓stU, stD, Nat.reduceEqDiff, ↓reduceIte, reduceCtorEq]
  have hF14 : Fresh S14 := fr14.1 (fr12.1 hF11)
  have hL14 := hL.same e14
  have ip : InBound p := bp.bnd.inBound (by decide)
  have iq : InBound q := bq.bnd.inBound (by decide)
  -- the simplest
  refine wpc_seq (wpc_reg ?_)
  simp only [↓stU, stD, Nat.reduceEqDiff, ↓reduceIte, reduceCtorEq, p4, p5, ld3 gA, ld3 gB]
  refine wpo_call ?_
  simp only [↓stU, stD, Nat.reduceEqDiff, ↓reduceIte, reduceCtorEq]
  refine wpf_mono (wpf_fresh (rsimple_spec H hL14 hA hB ip iq hpq)) ?_
  rintro _ S15 ⟨⟨sv, s, rfl, hS, hbest, s15⟩, fr15⟩
  obtain ⟨t0, t1, t2, rfl⟩ := hS.cells
  simp only [↓stU, stD, Nat.reduceEqDiff, ↓reduceIte, reduceCtorEq, ex0, ex1]
  refine wpo_allocF ?_
  intro S16 s16 n16 g16 fr16
  refine wpo_stF (b := S15.nx) (by simp only [↓stU, stD, Nat.reduceEqDiff, ↓reduceIte, reduceCtorEq]) (by simp only [↓stU, stD, Nat.reduceEqDiff, ↓reduceIte, reduceCtorEq, cells_agg]; rfl) g16 rfl rfl ?_
  intro S17 s17 n17 gS fr17
  simp only [↓stU, stD, Nat.reduceEqDiff, ↓reduceIte, reduceCtorEq]
  have s1517 : Same S15 S17 := s17.same s16 (Nat.le_refl _)
  have s1417 := s15.trans s1517
  have e17 := e14.trans s1417
  have l15 := s15.1
  have hL17 := hL.same e17
  have hF17 : Fresh S17 := fr17.1 (fr16.1 (fr15.1 hF14))
  have gA17 : S17.h.get S5.nx = some (.cells [a0, a1, a2] false 0) := by rw [s1417.2 _ (by omega)]; exact gA
  have gB17 : S17.h.get S6.nx = some (.cells [b0, b1, b2] false 0) := by rw [s1417.2 _ (by omega)]; exact gB
  have gC17 : S17.h.get S7.nx = some (.cells [c0, c1', c2] false 0) := by rw [s1417.2 _ (by omega)]; exact gC
  have hA17 := hA.same s1417
  have hB17 := hB.same s1417
  have hC17 := hC14.same s1417
  have hS17 := hS.same s1517
  have bs : SmallR s := by
    obtain ⟨h1, h2⟩ := hbest.2.2 p Rat.le_refl hpq
    exact ⟨Nat.le_trans h2 bp.1, Nat.le_trans h1 bp.2⟩
  have is : InBound s := bs.bnd.inBound (by decide)
  -- it lies between
  refine wpc_seq (wpc_reg ?_)
  simp only [↓stU, stD, Nat.reduceEqDiff, ↓reduceIte, reduceCtorEq, p4, ld3 gA17, ld3 gS]
  refine wpo_call ?_
  simp only [↓stU, stD, Nat.reduceEqDiff, ↓reduceIte, reduceCtorEq]
  refine wpf_mono (wpf_fresh (rcmp_spec H hL17 hA17 hS17 ip is)) ?_
  rintro _ S18 ⟨⟨rfl, s18⟩, fr18⟩
  simp only [↓stU, stD, Nat.reduceEqDiff, ↓reduceIte, reduceCtorEq, ex0, ex1]
  have l18 := s18.1
  have gS18 : S18.h.get S15.nx = some (.cells [t0, t1, t2] false 0) := by rw [s18.2 _ (by omega)]; exact gS
  have gB18 : S18.h.get S6.nx = some (.cells [b0, b1, b2] false 0) := by rw [s18.2 _ (by omega)]; exact gB17
  refine wpc_seq (wpc_reg ?_)
  simp only [↓stU, stD, Nat.reduceEqDiff, ↓reduceIte, reduceCtorEq, p5, ld3 gB18, ld3 gS18]
  refine wpo_call ?_
  simp only [↓stU, stD, Nat.reduceEqDiff, ↓reduceIte, reduceCtorEq]
  refine wpf_mono (wpf_fresh (rcmp_spec H (hL17.same s18) (hS17.same s18) (hB17.same s18) is iq)) ?_
  rintro _ S19 ⟨⟨rfl, s19⟩, fr19⟩
  simp only [↓stU, stD, Nat.reduceEqDiff, ↓reduceIte, reduceCtorEq, ex0, ex1]
  have s1719 := s18.trans s19
  have e19 := e17.trans s1719
  have l19 := s19.1
  have hL19 := hL.same e19
  have hF19 : Fresh S19 := fr19.1 (fr18.1 hF17)
  have gA19 : S19.h.get S5.nx = some (.cells [a0, a1, a2] false 0) := by rw [s1719.2 _ (by omega)]; exact gA17
  have gB19 : S19.h.get S6.nx = some (.cells [b0, b1, b2] false 0) := by rw [s19.2 _ (by omega)]; exact gB18
  have gC19 : S19.h.get S7.nx = some (.cells [c0, c1', c2] false 0) := by rw [s1719.2 _ (by omega)]; exact gC17
  have gS19 : S19.h.get S15.nx = some (.cells [t0, t1, t2] false 0) := by rw [s19.2 _ (by omega)]; exact gS18
  have hA19 := hA17.same s1719
  have hB19 := hB17.same s1719
  have hC19 := hC17.same s1719
  have hS19 := hS17.same s1719
  -- its parts
  have hB' : B = 1000000000 := rfl
  obtain ⟨nv, dv, he, ⟨ln, i1, i2, i3⟩, ⟨ld, j1, j2, j3⟩⟩ := id hS19
  cases he
  have bs1 := bs.1
  have bs2 := bs.2
  have sd0 : 0 < s.den := by have := s.den_nz; omega
  have eld : ld = [s.den] := one_small j2 j3 sd0 (by omega)
  rw [eld] at j1
  have hlen2 : lenSlV t2 = some (.int .i64 1) := j1.len
  have n0 : natOf (.int .i64 0) = some 0 := rfl
  have hia2 := j1.iaddr (i := 0) (by simp)
  have hld2 : qLdV (elemP t2 0) false 1 S19.h = some (.int .u32 (s.den : Int)) := j1.ld (i := 0) (by simp)
  obtain ⟨kn, hkn, hkn1, hkn0⟩ : ∃ kn : Nat, lenSlV t1 = some (.int .i64 (kn : Int)) ∧ kn ≤ 1 ∧ (kn = 0 ↔ s.num.natAbs = 0) := by
    rcases Nat.eq_zero_or_pos s.num.natAbs with h0 | h0
    · have : ln = [] := norm_inj i2 norm_nil (by rw [i3, h0]; rfl)
      rw [this] at i1
      exact ⟨0, i1.len, by omega, by omega⟩
    · have : ln = [s.num.natAbs] := one_small i2 i3 h0 (by omega)
      rw [this] at i1
      exact ⟨1, i1.len, by omega, by omega⟩
  have d0 : decide ((0 : Int) ≠ 0) = false := rfl
  have d1 : decide ((1 : Int) ≠ 1) = false := rfl
  have c11 : decide (0 < cmpR p s) = false := decide_eq_false (cmpR_le hbest.1)
  have c13 : decide (0 < cmpR s q) = false := decide_eq_false (cmpR_le hbest.2.1)
  have ckn : decide ((1 : Int) < (kn : Int)) = false := decide_eq_false (by omega)
  have c20 : decide ((20 : Int) < (s.den : Int)) = false := decide_eq_false (by omega)
  refine wpc_seq (wpc_seq (wpc_reg ?_))
  simp only [↓stU, stD, Nat.reduceEqDiff, ↓reduceIte, reduceCtorEq, p8, d0, d1, c11, c13, ckn, c20, evQ_faddr, faddr_ptr, ld3_1 gS19, ld3_2 gS19, hlen2, hkn, n0, hia2, hld2]
  refine wpc_if (t := false) (by simp only [↓stU, stD, Nat.reduceEqDiff, ↓reduceIte, reduceCtorEq]) (fun h => by cases h) (fun _ => wpc_skip ?_)
  simp only [↓stU, stD, Nat.reduceEqDiff, ↓reduceIte, reduceCtorEq]
  have wd : IntKind.i64.wrap (s.den : Int) = (s.den : Int) := wrap_i64 (by omega) (by omega)
  have wn : IntKind.i64.wrap (s.num.natAbs : Int) = (s.num.natAbs : Int) := wrap_i64 (by omega) (by omega)
  refine wpc_seq (wpc_reg ?_)
  simp only [↓stU, stD, Nat.reduceEqDiff, ↓reduceIte, reduceCtorEq, evQ_faddr, faddr_ptr, ld3_2 gS19, n0, hia2, hld2, wd]
  refine wpc_seq (wpc_mono (Q := fun o A' T => o = .normal ∧ T = S19 ∧ A'.inr = false ∧ tmpV 4 A'.F = .ptr S5.nx 0 ∧ tmpV 5 A'.F = .ptr S6.nx 0 ∧ tmpV 6 A'.F = .ptr S7.nx 0 ∧ tmpV 9 A'.F = .ptr S15.nx 0 ∧ tmpV 15 A'.F = .int .i64 (s.den : Int) ∧ tmpV 16 A'.F = .int .i64 (s.num.natAbs : Int)) ?_ ?_)
  · refine wpc_seq (wpc_reg ?_)
    simp only [↓stU, stD, Nat.reduceEqDiff, ↓reduceIte, reduceCtorEq, evQ_faddr, faddr_ptr, ld3_1 gS19, hkn]
    rcases Nat.eq_zero_or_pos s.num.natAbs with h0 | h0
    · have : kn = 0 := hkn0.2 h0
      refine wpc_if (t := false) (by simp only [↓stU, stD, Nat.reduceEqDiff, ↓reduceIte, reduceCtorEq, decide_eq_false (show ¬ (0 : Int) < (kn : Int) by omega)]) (fun h => by cases h) (fun _ => wpc_skip ?_)
      simp only [↓stU, stD, Nat.reduceEqDiff, ↓reduceIte, reduceCtorEq, p4, p5, p6, h0]
    · have eln : ln = [s.num.natAbs] := one_small i2 i3 h0 (by omega)
      rw [eln] at i1
      have hia1 := i1.iaddr (i := 0) (by simp)
      have hld1 : qLdV (elemP t1 0) false 1 S19.h = some (.int .u32 (s.num.natAbs : Int)) := i1.ld (i := 0) (by simp)
      have : ¬ kn = 0 := fun h => by have := hkn0.1 h; omega
      refine wpc_if (t := true) (by simp only [↓stU, stD, Nat.reduceEqDiff, ↓reduceIte, reduceCtorEq, decide_eq_true (show (0 : Int) < (kn : Int) by omega)]) (fun _ => wpc_reg ?_) (fun h => by cases h)
      simp only [↓stU, stD, Nat.reduceEqDiff, ↓reduceIte, reduceCtorEq, evQ_faddr, faddr_ptr, ld3_1 gS19, n0, hia1, hld1, wn, p4, p5, p6]
  rintro o ⟨F, inr⟩ T ⟨rfl, hT, q0, p4, p5, p6, p9, p15, p16⟩
  simp only at q0 p4 p5 p6 p9 p15 p16
  subst q0
  rw [hT]
  try simp only [↓stU, stD, Nat.reduceEqDiff, ↓reduceIte, reduceCtorEq]
  -- none that is simpler lies between
  refine wpc_seq (wpc_mono (wpc_fresh (Q := fun o A' T => o = .normal ∧ SlotsI S19 S5.nx S6.nx S7.nx S15.nx s.den s.num.natAbs A' T) ?_) ?_)
  · refine wpc_seq (wpc_reg ?_)
    simp only [↓stU, stD, Nat.reduceEqDiff, ↓reduceIte, reduceCtorEq]
    refine wpc_block (wpc_loop (OutI S19 S5.nx S6.nx S7.nx S15.nx s.den s.num.natAbs) ?_ s.den _ _ ⟨⟨rfl, Same.refl _, by simp only [↓stU, stD, Nat.reduceEqDiff, ↓reduceIte, reduceCtorEq, p4], by simp only [↓stU, stD, Nat.reduceEqDiff, ↓reduceIte, reduceCtorEq, p5], by simp only [↓stU, stD, Nat.reduceEqDiff, ↓reduceIte, reduceCtorEq, p6], by simp only [↓stU, stD, Nat.reduceEqDiff, ↓reduceIte, reduceCtorEq, p9], by simp only [↓stU, stD, Nat.reduceEqDiff, ↓reduceIte, reduceCtorEq, p15], by simp only [↓stU, stD, Nat.reduceEqDiff, ↓reduceIte, reduceCtorEq, p16]⟩, 1, by omega, by omega, by simp only [↓stU, stD, Nat.reduceEqDiff, ↓reduceIte, reduceCtorEq]⟩)
    clear p4 p5 p6 p9 p15 p16
    rintro k ⟨F, inr⟩ T ⟨⟨q0, sT, p4, p5, p6, p9, p15, p16⟩, d, hdk, hd1', p17⟩
    simp only at q0 p4 p5 p6 p9 p15 p16 p17
    subst q0
    refine wpc_seq (wpc_seq (wpc_reg ?_))
    simp only [↓stU, stD, Nat.reduceEqDiff, ↓reduceIte, reduceCtorEq, p15, p17]
    by_cases hle : d ≤ s.den
    · refine wpc_if (t := true) (by simp only [↓stU, stD, Nat.reduceEqDiff, ↓reduceIte, reduceCtorEq, decide_eq_true (show (d : Int) ≤ (s.den : Int) by omega)]) (fun _ => wpc_skip ?_) (fun h => by cases h)
      simp only [↓stU, stD, Nat.reduceEqDiff, ↓reduceIte, reduceCtorEq]
      have wa : IntKind.i64.wrap (Int.negSucc 19 * (d : Int)) = -(20 * (d : Int)) := by rw [wrap_i64 (by omega) (by omega)]; omega
      have wb : IntKind.i64.wrap (20 * (d : Int)) = 20 * (d : Int) := wrap_i64 (by omega) (by omega)
      refine wpc_seq (wpc_block (wpc_seq (wpc_reg ?_)))
      simp only [↓stU, stD, Nat.reduceEqDiff, ↓reduceIte, reduceCtorEq, p17, wa]
      refine wpc_block (wpc_mono (wpc_loop (InI S19 S5.nx S6.nx S7.nx S15.nx s.den s.num.natAbs d) (Q := fun o A' T => o = .exit 2 ∧ SlotsI S19 S5.nx S6.nx S7.nx S15.nx s.den s.num.natAbs A' T ∧ tmpV 17 A'.F = .int .i64 (d : Int)) ?_ (40 * d + 1) _ _ ⟨⟨rfl, sT, by simp only [↓stU, stD, Nat.reduceEqDiff, ↓reduceIte, reduceCtorEq, p4], by simp only [↓stU, stD, Nat.reduceEqDiff, ↓reduceIte, reduceCtorEq, p5], by simp only [↓stU, stD, Nat.reduceEqDiff, ↓reduceIte, reduceCtorEq, p6], by simp only [↓stU, stD, Nat.reduceEqDiff, ↓reduceIte, reduceCtorEq, p9], by simp only [↓stU, stD, Nat.reduceEqDiff, ↓reduceIte, reduceCtorEq, p15], by simp only [↓stU, stD, Nat.reduceEqDiff, ↓reduceIte, reduceCtorEq, p16]⟩, by simp only [↓stU, stD, Nat.reduceEqDiff, ↓reduceIte, reduceCtorEq, p17], -(20 * (d : Int)), by omega, by omega, by simp only [↓stU, stD, Nat.reduceEqDiff, ↓reduceIte, reduceCtorEq]⟩) ?_)
      · clear p4 p5 p6 p9 p15 p16 p17
        rintro k' ⟨F, inr⟩ T ⟨⟨q0, sT, p4, p5, p6, p9, p15, p16⟩, p17, n, hnk, hn1, p18⟩
        simp only at q0 p4 p5 p6 p9 p15 p16 p17 p18
        subst q0
        refine wpc_seq (wpc_seq (wpc_reg ?_))
        simp only [↓stU, stD, Nat.reduceEqDiff, ↓reduceIte, reduceCtorEq, p17, p18, wb]
        by_cases hn : n ≤ 20 * (d : Int)
        · refine wpc_if (t := true) (by simp only [↓stU, stD, Nat.reduceEqDiff, ↓reduceIte, reduceCtorEq, decide_eq_true hn]) (fun _ => wpc_skip ?_) (fun h => by cases h)
          simp only [↓stU, stD, Nat.reduceEqDiff, ↓reduceIte, reduceCtorEq]
          refine wpc_seq (wpc_mono (Q := fun o A' T' => o = .normal ∧ SlotsI S19 S5.nx S6.nx S7.nx S15.nx s.den s.num.natAbs A' T' ∧ tmpV 17 A'.F = .int .i64 (d : Int) ∧ tmpV 18 A'.F = .int .i64 n) ?_ ?_)
          · refine wpc_block (wpc_seq (wpc_seq (wpc_mono (Q := fun o A' T' => o = .normal ∧ T' = T ∧ SlotsI S19 S5.nx S6.nx S7.nx S15.nx s.den s.num.natAbs A' T ∧ tmpV 17 A'.F = .int .i64 (d : Int) ∧ tmpV 18 A'.F = .int .i64 n ∧ tmpV 143 A'.F = .bool (decide (d = s.den ∧ ((s.num.natAbs : Int) ≤ n ∨ (s.num.natAbs : Int) ≤ -n)))) ?_ ?_)))
            · refine wpc_reg ?_
              have wg : IntKind.i64.wrap (-n) = -n := wrap_i64 (by omega) (by omega)
              by_cases h1 : d = s.den
              · have f1 : decide ((d : Int) = (s.den : Int)) = true := decide_eq_true (by omega)
                by_cases h2 : (s.num.natAbs : Int) ≤ n
                · simp only [↓stU, stD, Nat.reduceEqDiff, ↓reduceIte, reduceCtorEq, p15, p16, p17, p18, f1, decide_eq_true h2, decide_eq_true (show d = s.den ∧ ((s.num.natAbs : Int) ≤ n ∨ (s.num.natAbs : Int) ≤ -n) from ⟨h1, .inl h2⟩)]
                  exact ⟨rfl, sT, by simp only [↓stU, stD, Nat.reduceEqDiff, ↓reduceIte, reduceCtorEq, p4], by simp only [↓stU, stD, Nat.reduceEqDiff, ↓reduceIte, reduceCtorEq, p5], by simp only [↓stU, stD, Nat.reduceEqDiff, ↓reduceIte, reduceCtorEq, p6], by simp only [↓stU, stD, Nat.reduceEqDiff, ↓reduceIte, reduceCtorEq, p9], by simp only [↓stU, stD, Nat.reduceEqDiff, ↓reduceIte, reduceCtorEq, p15], by simp only [↓stU, stD, Nat.reduceEqDiff, ↓reduceIte, reduceCtorEq, p16]⟩
                · by_cases h3 : (s.num.natAbs : Int) ≤ -n
                  · simp only [↓stU, stD, Nat.reduceEqDiff, ↓reduceIte, reduceCtorEq, p15, p16, p17, p18, f1, un_neg_i, wg, decide_eq_false h2, decide_eq_true h3, decide_eq_true (show d = s.den ∧ ((s.num.natAbs : Int) ≤ n ∨ (s.num.natAbs : Int) ≤ -n) from ⟨h1, .inr h3⟩)]
                    exact ⟨rfl, sT, by simp only [↓stU, stD, Nat.reduceEqDiff, ↓reduceIte, reduceCtorEq, p4], by simp only [↓stU, stD, Nat.reduceEqDiff, ↓reduceIte, reduceCtorEq, p5], by simp only [↓stU, stD, Nat.reduceEqDiff, ↓reduceIte, reduceCtorEq, p6], by simp only [↓stU, stD, Nat.reduceEqDiff, ↓reduceIte, reduceCtorEq, p9], by simp only [↓stU, stD, Nat.reduceEqDiff, ↓reduceIte, reduceCtorEq, p15], by simp only [↓stU, stD, Nat.reduceEqDiff, ↓reduceIte, reduceCtorEq, p16]⟩
                  · simp only [↓stU, stD, Nat.reduceEqDiff, ↓reduceIte, reduceCtorEq, p15, p16, p17, p18, f1, un_neg_i, wg, decide_eq_false h2, decide_eq_false h3, decide_eq_false (show ¬ (d = s.den ∧ ((s.num.natAbs : Int) ≤ n ∨ (s.num.natAbs : Int) ≤ -n)) from fun h => h.2.elim h2 h3)]
                    exact ⟨rfl, sT, by simp only [↓stU, stD, Nat.reduceEqDiff, ↓reduceIte, reduceCtorEq, p4], by simp only [↓stU, stD, Nat.reduceEqDiff, ↓reduceIte, reduceCtorEq, p5], by simp only [↓stU, stD, Nat.reduceEqDiff, ↓reduceIte, reduceCtorEq, p6], by simp only [↓stU, stD, Nat.reduceEqDiff, ↓reduceIte, reduceCtorEq, p9], by simp only [↓stU, stD, Nat.reduceEqDiff, ↓reduceIte, reduceCtorEq, p15], by simp only [↓stU, stD, Nat.reduceEqDiff, ↓reduceIte, reduceCtorEq, p16]⟩
              · have f1 : decide ((d : Int) = (s.den : Int)) = false := decide_eq_false (by omega)
                simp only [↓stU, stD, Nat.reduceEqDiff, ↓reduceIte, reduceCtorEq, p15, p16, p17, p18, f1, decide_eq_false (show ¬ (d = s.den ∧ ((s.num.natAbs : Int) ≤ n ∨ (s.num.natAbs : Int) ≤ -n)) from fun h => h1 h.1)]
                exact ⟨rfl, sT, by simp only [↓stU, stD, Nat.reduceEqDiff, ↓reduceIte, reduceCtorEq, p4], by simp only [↓stU, stD, Nat.reduceEqDiff, ↓reduceIte, reduceCtorEq, p5], by simp only [↓stU, stD, Nat.reduceEqDiff, ↓reduceIte, reduceCtorEq, p6], by simp only [↓stU, stD, Nat.reduceEqDiff, ↓reduceIte, reduceCtorEq, p9], by simp only [↓stU, stD, Nat.reduceEqDiff, ↓reduceIte, reduceCtorEq, p15], by simp only [↓stU, stD, Nat.reduceEqDiff, ↓reduceIte, reduceCtorEq, p16]⟩
            clear p4 p5 p6 p9 p15 p16 p17 p18
            rintro o ⟨F, inr⟩ T' ⟨rfl, hT', ⟨q0, sT, p4, p5, p6, p9, p15, p16⟩, p17, p18, p143⟩
            simp only at q0 p4 p5 p6 p9 p15 p16 p17 p18 p143
            subst q0
            rw [hT']
            try simp only [↓stU, stD, Nat.reduceEqDiff, ↓reduceIte, reduceCtorEq]
            by_cases hc : d = s.den ∧ ((s.num.natAbs : Int) ≤ n ∨ (s.num.natAbs : Int) ≤ -n)
            · refine wpc_if (t := true) (by simp only [↓stU, stD, Nat.reduceEqDiff, ↓reduceIte, reduceCtorEq, p143, decide_eq_true hc]) (fun _ => wpc_exit ?_) (fun h => by cases h)
              simp only [↓stU, stD, Nat.reduceEqDiff, ↓reduceIte, reduceCtorEq]
              exact ⟨⟨rfl, sT, by simp only [↓stU, stD, Nat.reduceEqDiff, ↓reduceIte, reduceCtorEq, p4], by simp only [↓stU, stD, Nat.reduceEqDiff, ↓reduceIte, reduceCtorEq, p5], by simp only [↓stU, stD, Nat.reduceEqDiff, ↓reduceIte, reduceCtorEq, p6], by simp only [↓stU, stD, Nat.reduceEqDiff, ↓reduceIte, reduceCtorEq, p9], by simp only [↓stU, stD, Nat.reduceEqDiff, ↓reduceIte, reduceCtorEq, p15], by simp only [↓stU, stD, Nat.reduceEqDiff, ↓reduceIte, reduceCtorEq, p16]⟩, p17, p18⟩
            refine wpc_if (t := false) (by simp only [↓stU, stD, Nat.reduceEqDiff, ↓reduceIte, reduceCtorEq, p143, decide_eq_false hc]) (fun h => by cases h) (fun _ => wpc_skip ?_)
            simp only [↓stU, stD, Nat.reduceEqDiff, ↓reduceIte, reduceCtorEq]
            have hno : ¬ (p ≤ mkRat n d ∧ mkRat n d ≤ q) := by
              rintro ⟨h1, h2⟩
              obtain ⟨h3, h4⟩ := hbest.2.2 _ h1 h2
              obtain ⟨h5, h6⟩ := mkRat_le (n := n) (d := d) (by omega)
              exact hc ⟨by omega, by omega⟩
            have bx : Bnd 1 (mkRat n d) := by
              obtain ⟨h5, h6⟩ := mkRat_le (n := n) (d := d) (by omega)
              refine ⟨?_, ?_⟩ <;> rw [Nat.pow_one] <;> omega
            have ix : InBound (mkRat n d) := bx.inBound (by decide)
            have eT := e19.trans sT
            have lT := sT.1
            have gAT : T.h.get S5.nx = some (.cells [a0, a1, a2] false 0) := by rw [sT.2 _ (by omega)]; exact gA19
            have tA : S5.nx < T.nx := by omega
            refine wpc_seq (wpc_mono (Q := fun o A' T' => o = .normal ∧ SlotsI S19 S5.nx S6.nx S7.nx S15.nx s.den s.num.natAbs A' T' ∧ tmpV 17 A'.F = .int .i64 (d : Int) ∧ tmpV 18 A'.F = .int .i64 n ∧ tmpV 19 A'.F = .int .i64 (cmpR p (mkRat n d)) ∧ tmpV 20 A'.F = .int .i64 0) ?_ ?_)
            · refine wpc_drd1 (fun _ => False) ?_
              intro T1 r1
              simp only [↓stU, stD, Nat.reduceEqDiff, ↓reduceIte, reduceCtorEq, ↓stV, stW, Nat.reduceAdd, p4, p17, p18, ld3 gAT, tA, not_false_eq_true, self_rat hA]
              refine runD_call0 rfl ?_
              try simp only [↓stU, stD, Nat.reduceEqDiff, ↓reduceIte, reduceCtorEq, ↓stV, stW, Nat.reduceAdd]
              refine wpf_mono (of_spec' (a := n) (b := d) H (by omega) (by omega) (by omega)) ?_
              rintro xv T2 ⟨hx, r2⟩
              refine ⟨r2, ?_⟩
              try simp only [↓stU, stD, Nat.reduceEqDiff, ↓reduceIte, reduceCtorEq, ↓stV, stW, Nat.reduceAdd]
              refine runD_call0 rfl ?_
              try simp only [↓stU, stD, Nat.reduceEqDiff, ↓reduceIte, reduceCtorEq, ↓stV, stW, Nat.reduceAdd]
              have r02 := r1.trans r2
              refine wpf_mono (rcmp_spec H (hL.same (eT.trans r02)) (hA19.same (sT.trans r02)) hx ip ix) ?_
              rintro _ T3 ⟨rfl, r3⟩
              refine ⟨r3, ?_⟩
              simp only [↓stU, stD, Nat.reduceEqDiff, ↓reduceIte, reduceCtorEq, ↓stV, stW, Nat.reduceAdd, ex0, ex1, p17, p18]
              exact ⟨rfl, sT.trans (r02.trans r3), by simp only [↓stU, stD, Nat.reduceEqDiff, ↓reduceIte, reduceCtorEq, p4], by simp only [↓stU, stD, Nat.reduceEqDiff, ↓reduceIte, reduceCtorEq, p5], by simp only [↓stU, stD, Nat.reduceEqDiff, ↓reduceIte, reduceCtorEq, p6], by simp only [↓stU, stD, Nat.reduceEqDiff, ↓reduceIte, reduceCtorEq, p9], by simp only [↓stU, stD, Nat.reduceEqDiff, ↓reduceIte, reduceCtorEq, p15], by simp only [↓stU, stD, Nat.reduceEqDiff, ↓reduceIte, reduceCtorEq, p16]⟩
            clear p4 p5 p6 p9 p15 p16 p17 p18
            rintro o ⟨F, inr⟩ T3 ⟨rfl, ⟨q0, r3, p4, p5, p6, p9, p15, p16⟩, p17, p18, p19, p20⟩
            simp only at q0 p4 p5 p6 p9 p15 p16 p17 p18 p19 p20
            subst q0
            try simp only [↓stU, stD, Nat.reduceEqDiff, ↓reduceIte, reduceCtorEq]
            have lT3 := r3.1
            have gBT : T3.h.get S6.nx = some (.cells [b0, b1, b2] false 0) := by rw [r3.2 _ (by omega)]; exact gB19
            have tB : S6.nx < T3.nx := by omega
            have eT3 := e19.trans r3
            refine wpc_seq (wpc_mono (Q := fun o A' T' => o = .normal ∧ SlotsI S19 S5.nx S6.nx S7.nx S15.nx s.den s.num.natAbs A' T' ∧ tmpV 17 A'.F = .int .i64 (d : Int) ∧ tmpV 18 A'.F = .int .i64 n ∧ tmpV 19 A'.F = .int .i64 (cmpR p (mkRat n d)) ∧ tmpV 20 A'.F = .int .i64 0 ∧ tmpV 21 A'.F = .int .i64 (cmpR (mkRat n d) q) ∧ tmpV 22 A'.F = .int .i64 0) ?_ ?_)
            · refine wpc_drd1 (fun _ => False) ?_
              intro T4 r4
              simp only [↓stU, stD, Nat.reduceEqDiff, ↓reduceIte, reduceCtorEq, ↓stV, stW, Nat.reduceAdd, p17, p18]
              refine runD_call0 rfl ?_
              try simp only [↓stU, stD, Nat.reduceEqDiff, ↓reduceIte, reduceCtorEq, ↓stV, stW, Nat.reduceAdd]
              refine wpf_mono (of_spec' (a := n) (b := d) H (by omega) (by omega) (by omega)) ?_
              rintro xv T5 ⟨hx, r5⟩
              refine ⟨r5, ?_⟩
              simp only [↓stU, stD, Nat.reduceEqDiff, ↓reduceIte, reduceCtorEq, ↓stV, stW, Nat.reduceAdd, p5, ld3 gBT, tB, not_false_eq_true, self_rat hB]
              refine runD_call0 rfl ?_
              try simp only [↓stU, stD, Nat.reduceEqDiff, ↓reduceIte, reduceCtorEq, ↓stV, stW, Nat.reduceAdd]
              have r35 := r4.trans r5
              refine wpf_mono (rcmp_spec H (hL.same (eT3.trans r35)) hx (hB19.same (r3.trans r35)) ix iq) ?_
              rintro _ T6 ⟨rfl, r6⟩
              refine ⟨r6, ?_⟩
              simp only [↓stU, stD, Nat.reduceEqDiff, ↓reduceIte, reduceCtorEq, ↓stV, stW, Nat.reduceAdd, ex0, ex1, p17, p18, p19, p20]
              exact ⟨rfl, r3.trans (r35.trans r6), by simp only [↓stU, stD, Nat.reduceEqDiff, ↓reduceIte, reduceCtorEq, p4], by simp only [↓stU, stD, Nat.reduceEqDiff, ↓reduceIte, reduceCtorEq, p5], by simp only [↓stU, stD, Nat.reduceEqDiff, ↓reduceIte, reduceCtorEq, p6], by simp only [↓stU, stD, Nat.reduceEqDiff, ↓reduceIte, reduceCtorEq, p9], by simp only [↓stU, stD, Nat.reduceEqDiff, ↓reduceIte, reduceCtorEq, p15], by simp only [↓stU, stD, Nat.reduceEqDiff, ↓reduceIte, reduceCtorEq, p16]⟩
            clear p4 p5 p6 p9 p15 p16 p17 p18 p19 p20
            rintro o ⟨F, inr⟩ T6 ⟨rfl, ⟨q0, r6, p4, p5, p6, p9, p15, p16⟩, p17, p18, p19, p20, p21, p22⟩
            simp only at q0 p4 p5 p6 p9 p15 p16 p17 p18 p19 p20 p21 p22
            subst q0
            try simp only [↓stU, stD, Nat.reduceEqDiff, ↓reduceIte, reduceCtorEq]
            refine wpc_seq (wpc_mono (Q := fun o A' T' => o = .normal ∧ T' = T6 ∧ SlotsI S19 S5.nx S6.nx S7.nx S15.nx s.den s.num.natAbs A' T6 ∧ tmpV 17 A'.F = .int .i64 (d : Int) ∧ tmpV 18 A'.F = .int .i64 n ∧ tmpV 173 A'.F = .bool false) ?_ ?_)
            · refine wpc_reg ?_
              by_cases h1 : cmpR p (mkRat n d) ≤ 0
              · have h2 : ¬ cmpR (mkRat n d) q ≤ 0 := fun h => hno ⟨le_cmpR h1, le_cmpR h⟩
                simp only [↓stU, stD, Nat.reduceEqDiff, ↓reduceIte, reduceCtorEq, p17, p18, p19, p20, p21, p22, d0, decide_eq_true h1, decide_eq_false h2]
                exact ⟨rfl, r6, by simp only [↓stU, stD, Nat.reduceEqDiff, ↓reduceIte, reduceCtorEq, p4], by simp only [↓stU, stD, Nat.reduceEqDiff, ↓reduceIte, reduceCtorEq, p5], by simp only [↓stU, stD, Nat.reduceEqDiff, ↓reduceIte, reduceCtorEq, p6], by simp only [↓stU, stD, Nat.reduceEqDiff, ↓reduceIte, reduceCtorEq, p9], by simp only [↓stU, stD, Nat.reduceEqDiff, ↓reduceIte, reduceCtorEq, p15], by simp only [↓stU, stD, Nat.reduceEqDiff, ↓reduceIte, reduceCtorEq, p16]⟩
              · simp only [↓stU, stD, Nat.reduceEqDiff, ↓reduceIte, reduceCtorEq, p17, p18, p19, p20, p21, p22, d0, decide_eq_false h1]
                exact ⟨rfl, r6, by simp only [↓stU, stD, Nat.reduceEqDiff, ↓reduceIte, reduceCtorEq, p4], by simp only [↓stU, stD, Nat.reduceEqDiff, ↓reduceIte, reduceCtorEq, p5], by simp only [↓stU, stD, Nat.reduceEqDiff, ↓reduceIte, reduceCtorEq, p6], by simp only [↓stU, stD, Nat.reduceEqDiff, ↓reduceIte, reduceCtorEq, p9], by simp only [↓stU, stD, Nat.reduceEqDiff, ↓reduceIte, reduceCtorEq, p15], by simp only [↓stU, stD, Nat.reduceEqDiff, ↓reduceIte, reduceCtorEq, p16]⟩
            clear p4 p5 p6 p9 p15 p16 p17 p18 p19 p20
            rintro o ⟨F, inr⟩ T' ⟨rfl, hT', ⟨q0, sT, p4, p5, p6, p9, p15, p16⟩, p17, p18, p173⟩
            simp only at q0 p4 p5 p6 p9 p15 p16 p17 p18 p173
            subst q0
            rw [hT']
            try simp only [↓stU, stD, Nat.reduceEqDiff, ↓reduceIte, reduceCtorEq]
            refine wpc_if (t := false) (by simp only [↓stU, stD, Nat.reduceEqDiff, ↓reduceIte, reduceCtorEq, p173]) (fun h => by cases h) (fun _ => wpc_skip ?_)
            simp only [↓stU, stD, Nat.reduceEqDiff, ↓reduceIte, reduceCtorEq]
            exact ⟨⟨rfl, sT, by simp only [↓stU, stD, Nat.reduceEqDiff, ↓reduceIte, reduceCtorEq, p4], by simp only [↓stU, stD, Nat.reduceEqDiff, ↓reduceIte, reduceCtorEq, p5], by simp only [↓stU, stD, Nat.reduceEqDiff, ↓reduceIte, reduceCtorEq, p6], by simp only [↓stU, stD, Nat.reduceEqDiff, ↓reduceIte, reduceCtorEq, p9], by simp only [↓stU, stD, Nat.reduceEqDiff, ↓reduceIte, reduceCtorEq, p15], by simp only [↓stU, stD, Nat.reduceEqDiff, ↓reduceIte, reduceCtorEq, p16]⟩, p17, p18⟩
          · clear p4 p5 p6 p9 p15 p16 p17 p18
            rintro o ⟨F, inr⟩ T' ⟨rfl, ⟨q0, sT, p4, p5, p6, p9, p15, p16⟩, p17, p18⟩
            simp only at q0 p4 p5 p6 p9 p15 p16 p17 p18
            subst q0
            try simp only [↓stU, stD, Nat.reduceEqDiff, ↓reduceIte, reduceCtorEq]
            have wc : IntKind.i64.wrap (n + 1) = n + 1 := wrap_i64 (by omega) (by omega)
            refine wpc_reg ?_
            simp only [↓stU, stD, Nat.reduceEqDiff, ↓reduceIte, reduceCtorEq, p17, p18, wc]
            exact ⟨k' - 1, by omega, ⟨rfl, sT, by simp only [↓stU, stD, Nat.reduceEqDiff, ↓reduceIte, reduceCtorEq, p4], by simp only [↓stU, stD, Nat.reduceEqDiff, ↓reduceIte, reduceCtorEq, p5], by simp only [↓stU, stD, Nat.reduceEqDiff, ↓reduceIte, reduceCtorEq, p6], by simp only [↓stU, stD, Nat.reduceEqDiff, ↓reduceIte, reduceCtorEq, p9], by simp only [↓stU, stD, Nat.reduceEqDiff, ↓reduceIte, reduceCtorEq, p15], by simp only [↓stU, stD, Nat.reduceEqDiff, ↓reduceIte, reduceCtorEq, p16]⟩, by simp only [↓stU, stD, Nat.reduceEqDiff, ↓reduceIte, reduceCtorEq, p17], n + 1, by omega, by omega, by simp only [↓stU, stD, Nat.reduceEqDiff, ↓reduceIte, reduceCtorEq]⟩
        · refine wpc_if (t := false) (by simp only [↓stU, stD, Nat.reduceEqDiff, ↓reduceIte, reduceCtorEq, decide_eq_false hn]) (fun h => by cases h) (fun _ => wpc_exit ?_)
          simp only [↓stU, stD, Nat.reduceEqDiff, ↓reduceIte, reduceCtorEq]
          exact ⟨⟨rfl, sT, by simp only [↓stU, stD, Nat.reduceEqDiff, ↓reduceIte, reduceCtorEq, p4], by simp only [↓stU, stD, Nat.reduceEqDiff, ↓reduceIte, reduceCtorEq, p5], by simp only [↓stU, stD, Nat.reduceEqDiff, ↓reduceIte, reduceCtorEq, p6], by simp only [↓stU, stD, Nat.reduceEqDiff, ↓reduceIte, reduceCtorEq, p9], by simp only [↓stU, stD, Nat.reduceEqDiff, ↓reduceIte, reduceCtorEq, p15], by simp only [↓stU, stD, Nat.reduceEqDiff, ↓reduceIte, reduceCtorEq, p16]⟩, p17⟩
      · rintro o ⟨F, inr⟩ T ⟨rfl, ⟨q0, sT, p4, p5, p6, p9, p15, p16⟩, p17⟩
        simp only at q0 p4 p5 p6 p9 p15 p16 p17
        subst q0
        simp only [↓stU, stD, Nat.reduceEqDiff, ↓reduceIte, reduceCtorEq]
        have wc : IntKind.i64.wrap ((d : Int) + 1) = ((d + 1 : Nat) : Int) := by rw [wrap_i64 (by omega) (by omega)]; omega
        refine wpc_reg ?_
        simp only [↓stU, stD, Nat.reduceEqDiff, ↓reduceIte, reduceCtorEq, p17, wc]
        exact ⟨k - 1, by omega, ⟨rfl, sT, by simp only [↓stU, stD, Nat.reduceEqDiff, ↓reduceIte, reduceCtorEq, p4], by simp only [↓stU, stD, Nat.reduceEqDiff, ↓reduceIte, reduceCtorEq, p5], by simp only [↓stU, stD, Nat.reduceEqDiff, ↓reduceIte, reduceCtorEq, p6], by simp only [↓stU, stD, Nat.reduceEqDiff, ↓reduceIte, reduceCtorEq, p9], by simp only [↓stU, stD, Nat.reduceEqDiff, ↓reduceIte, reduceCtorEq, p15], by simp only [↓stU, stD, Nat.reduceEqDiff, ↓reduceIte, reduceCtorEq, p16]⟩, d + 1, by omega, by omega, by simp only [↓stU, stD, Nat.reduceEqDiff, ↓reduceIte, reduceCtorEq]⟩
    · refine wpc_if (t := false) (by simp only [↓stU, stD, Nat.reduceEqDiff, ↓reduceIte, reduceCtorEq, decide_eq_false (show ¬ (d : Int) ≤ (s.den : Int) by omega)]) (fun h => by cases h) (fun _ => wpc_exit ?_)
      simp only [↓stU, stD, Nat.reduceEqDiff, ↓reduceIte, reduceCtorEq]
      exact ⟨rfl, sT, by simp only [↓stU, stD, Nat.reduceEqDiff, ↓reduceIte, reduceCtorEq, p4], by simp only [↓stU, stD, Nat.reduceEqDiff, ↓reduceIte, reduceCtorEq, p5], by simp only [↓stU, stD, Nat.reduceEqDiff, ↓reduceIte, reduceCtorEq, p6], by simp only [↓stU, stD, Nat.reduceEqDiff, ↓reduceIte, reduceCtorEq, p9], by simp only [↓stU, stD, Nat.reduceEqDiff, ↓reduceIte, reduceCtorEq, p15], by simp only [↓stU, stD, Nat.reduceEqDiff, ↓reduceIte, reduceCtorEq, p16]⟩
  clear p4 p5 p6 p9 p15 p16
  rintro o ⟨F, inr⟩ S20 ⟨⟨rfl, ⟨q0, s20, p4, p5, p6, p9, p15, p16⟩⟩, fr20⟩
  simp only at q0 p4 p5 p6 p9 p15 p16
  subst q0
  try simp only [↓stU, stD, Nat.reduceEqDiff, ↓reduceIte, reduceCtorEq]
  have e20 := e19.trans s20
  have l20 := s20.1
  have hF20 : Fresh S20 := fr20.1 hF19
  have gA20 : S20.h.get S5.nx = some (.cells [a0, a1, a2] false 0) := by rw [s20.2 _ (by omega)]; exact gA19
  have gB20 : S20.h.get S6.nx = some (.cells [b0, b1, b2] false 0) := by rw [s20.2 _ (by omega)]; exact gB19
  have gC20 : S20.h.get S7.nx = some (.cells [c0, c1', c2] false 0) := by rw [s20.2 _ (by omega)]; exact gC19
  have gS20 := (s20.2 S15.nx (by omega)).trans gS19
  have hA20 := hA19.same s20
  have hB20 := hB19.same s20
  have hC20 := hC19.same s20
  have j120 := j1.same s20
  have tA : S5.nx < S20.nx := by omega
  have tB : S6.nx < S20.nx := by omega
  have tC : S7.nx < S20.nx := by omega
  have tS : S15.nx < S20.nx := by omega
  have iqr : InBound (q + r) := (bq.bnd.add br.bnd).inBound (by decide)
  have hpqr : p ≤ q + r := by grind
  have hsqr : s ≤ q + r := by have := hbest.2.1; grind
  -- a wider room
  refine wpc_seq (wpc_mono (Q := fun o A' T => o = .normal ∧ A'.inr = false ∧ Same S20 T ∧ tmpV 9 A'.F = .ptr S15.nx 0 ∧ tmpV 8 A'.F = .int .i64 0 ∧ tmpV 23 A'.F = .ptr (S20.nx + 8) 0 ∧ S20.nx + 8 < T.nx ∧ ∃ k0 k1 k2 s', T.h.get (S20.nx + 8) = some (.cells [k0, k1, k2] false 0) ∧ RatIs T (.agg [k0, k1, k2]) s' ∧ BestR p (q + r) s') ?_ ?_)
  · refine wpc_drd2 (fun _ => False) ?_
    intro S21 s21 he21 hn21
    simp only [List.length_cons, List.length_nil, Nat.reduceAdd] at hn21
    simp only [↓stU, stD, Nat.reduceEqDiff, ↓reduceIte, reduceCtorEq, ↓stV, stW, Nat.reduceAdd, p4, p5, p6, ld3 gA20, ld3 gB20, ld3 gC20, tA, tB, tC, not_false_eq_true, self_rat hA, self_rat hB, self_rat hC]
    refine runD_call0 rfl ?_
    try simp only [↓stU, stD, Nat.reduceEqDiff, ↓reduceIte, reduceCtorEq, ↓stV, stW, Nat.reduceAdd]
    refine wpf_mono (sum_spec H (hL.same (e20.trans s21)) (hB20.same s21) (hC20.same s21) iq ir iqr) ?_
    rintro w1 S22 ⟨hw1, s22⟩
    refine ⟨s22, ?_⟩
    try simp only [↓stU, stD, Nat.reduceEqDiff, ↓reduceIte, reduceCtorEq, ↓stV, stW, Nat.reduceAdd]
    refine runD_call0 rfl ?_
    try simp only [↓stU, stD, Nat.reduceEqDiff, ↓reduceIte, reduceCtorEq, ↓stV, stW, Nat.reduceAdd]
    have s2022 := s21.trans s22
    refine wpf_mono (rsimple_spec H (hL.same (e20.trans s2022)) (hA20.same s2022) hw1 ip iqr hpqr) ?_
    rintro _ S23 ⟨w2, s', rfl, hw2, hb2, s23⟩
    refine ⟨s23, ?_⟩
    obtain ⟨k0, k1, k2, rfl⟩ := hw2.cells
    simp only [↓stU, stD, Nat.reduceEqDiff, ↓reduceIte, reduceCtorEq, ↓stV, stW, Nat.reduceAdd, ex0, ex1, evA_alloc]
    have s2023 := s2022.trans s23
    have hnone : S23.h.get (S20.nx + 8) = none := by
      have := s22.1
      rw [s23.2 _ (by omega), s22.2 _ (by omega), he21]; exact hF20 _ (by omega)
    have l23 := (s22.trans s23).1
    refine runD_stn (by rfl) rfl (by simp only [↓stU, stD, Nat.reduceEqDiff, ↓reduceIte, reduceCtorEq, ↓stV, stW, Nat.reduceAdd]) (by simp only [↓stU, stD, Nat.reduceEqDiff, ↓reduceIte, reduceCtorEq, ↓stV, stW, Nat.reduceAdd, cells_agg]; rfl) rfl rfl (by omega) ?_
    intro S24 s24 hn24 hc24
    simp only [↓stU, stD, Nat.reduceEqDiff, ↓reduceIte, reduceCtorEq, ↓stV, stW, Nat.reduceAdd, p9]
    exact ⟨s24.same s2023 (by omega), by omega, k0, k1, k2, s', hc24, hw2.lay hnone s24, hb2⟩
  rintro o ⟨F, inr⟩ S24 ⟨rfl, q0, s24, p9, p8, p23, t23, k0, k1, k2, s', g24, hk, hb2⟩
  simp only at q0 p9 p8 p23
  subst q0
  try simp only [↓stU, stD, Nat.reduceEqDiff, ↓reduceIte, reduceCtorEq]
  have e24 := e20.trans s24
  have l24 := s24.1
  have gS24 := (s24.2 S15.nx (by omega)).trans gS20
  have j24 := j120.same s24
  obtain ⟨hd1', _⟩ := hb2.2.2 s hbest.1 hsqr
  have sd1 : 0 < s'.den := by have := s'.den_nz; omega
  obtain ⟨nv, dv, he, _, ⟨lm, m1, m2, m3⟩⟩ := id hk
  cases he
  have elm : lm = [s'.den] := one_small m2 m3 sd1 (by omega)
  rw [elm] at m1
  have hlen3 : lenSlV k2 = some (.int .i64 1) := m1.len
  have hia3 := m1.iaddr (i := 0) (by simp)
  have hld3 : qLdV (elemP k2 0) false 1 S24.h = some (.int .u32 (s'.den : Int)) := m1.ld (i := 0) (by simp)
  have hia4 := j24.iaddr (i := 0) (by simp)
  have hld4 : qLdV (elemP t2 0) false 1 S24.h = some (.int .u32 (s.den : Int)) := j24.ld (i := 0) (by simp)
  obtain ⟨b3, o3, w3, t3⟩ := limb_place m1
  obtain ⟨b4, o4, w4, t4⟩ := limb_place j24
  rw [w3] at hia3 hld3
  rw [w4] at hia4 hld4
  have tS : S15.nx < S24.nx := by omega
  have z0 : decide ((0 : Int) = 0) = true := rfl
  have z1 : decide ((1 : Int) = 1) = true := rfl
  have zd : decide ((s'.den : Int) ≤ (s.den : Int)) = true := decide_eq_true (by omega)
  have self2 := limb_self m1
  have self4 := limb_self j24
  refine wpc_seq (wpc_mono (Q := fun o A' T => o = .normal ∧ Same S24 T ∧ tmpV 2 A'.F = .bool true) ?_ ?_)
  · refine wpc_drd1 (fun _ => False) ?_
    intro S25 s25
    simp only [↓stU, stD, Nat.reduceEqDiff, ↓reduceIte, reduceCtorEq, ↓stV, stW, Nat.reduceAdd, p8, p9, p23, z0, z1, zd, evQ_faddr, isLoad_faddr, faddr_ptr, ld3_2 g24, ld3_2 gS24, t23, tS, t3, t4, n0, hlen3, hia3, hld3, hia4, hld4, self2, self4, not_false_eq_true, decide_true, decide_false]
    refine runD_call0 rfl ?_
    try simp only [↓stU, stD, Nat.reduceEqDiff, ↓reduceIte, reduceCtorEq, ↓stV, stW, Nat.reduceAdd]
    refine wpf_mono (hAw S25 (hL.same (e24.trans s25))) ?_
    rintro _ S26 ⟨rfl, s26⟩
    refine ⟨s26, ?_⟩
    simp only [↓stU, stD, Nat.reduceEqDiff, ↓reduceIte, reduceCtorEq, ↓stV, stW, Nat.reduceAdd]
    exact s25.trans s26
  rintro o ⟨F, inr⟩ S26 ⟨rfl, s26, p2⟩
  simp only at p2
  try simp only [↓stU, stD, Nat.reduceEqDiff, ↓reduceIte, reduceCtorEq]
  refine wpc_ret ?_
  simp only [↓stU, stD, Nat.reduceEqDiff, ↓reduceIte, reduceCtorEq, p2]
  exact e24.trans s26
end Go.Ev.Gl
