/- Contracts (10): rational numbers, the statements' tools, the law. -/
import Derived.Test.YtoojnpjgnnpllaaGl9
open Nat (reduceEqDiff)
set_option maxHeartbeats 4000000
set_option linter.unusedSimpArgs false
set_option linter.unusedVariables false
namespace Go.Ev.Gl
variable {fns : T AFn}

/-! ## agree, Equal -/
theorem set_same0 {l : List Int} {i : Nat} {v : Int} (hi : i < l.length) (h : l.getD i 0 = v) : l.set i v = l := by
  refine rowEq (List.length_set ..) fun j hj => ?_
  rw [getD_set0 hi]
  split
  · rename_i e; rw [← e, h]
  · rfl
theorem agree_spec {S : St} {b sz : Nat} {l : List Int} {x v : Int} (H : Has fns) (hg : S.h.get b = some (.cells (cells64 l) false sz)) (h0 : 0 ≤ x) (hx : x.toNat < l.length) :
    wpf fns (.fn 157 [] []) [rowV b l, .int .i64 x, .int .i64 v] S fun r S' => SameBut b S S' ∧ ∃ t, r = .bool t ∧ (t = true → S'.h.get b = some (.cells (cells64 (l.set x.toNat v)) false sz) ∧ (0 ≤ l.getD x.toNat 0 → l.getD x.toNat 0 = v)) ∧ (t = false → 0 ≤ l.getD x.toNat 0 ∧ l.getD x.toNat 0 ≠ v) := by
  unfold rowV
  have hn := natOf_nn (k := .i64) h0
  have hia := row_ia (b := b) (o := false) hx
  have hld := ld64 hg hx
  refine wpf_fn H.f157 (by simp) ?_
  simp only [↓stU, stD, reduceEqDiff, ↓reduceIte, ↓stV, stW, Nat.reduceAdd]
  refine wsr ?_
  simp only [↓stU, stD, reduceEqDiff, ↓reduceIte, ↓stV, stW, Nat.reduceAdd]
  by_cases hlt : l.getD x.toNat 0 < 0
  · refine wss ?_
    simp only [↓stU, stD, reduceEqDiff, ↓reduceIte, ↓stV, stW, Nat.reduceAdd, hn, hia, hld]
    refine wpc_yes (by simp only [↓stU, stD, reduceEqDiff, ↓reduceIte, ↓stV, stW, Nat.reduceAdd, decide_eq_true hlt]) ?_
    refine wpc_reg ?_
    simp only [↓stU, stD, reduceEqDiff, ↓reduceIte, ↓stV, stW, Nat.reduceAdd, hn, hia]
    refine wpo_x (fun call => by simp only [↓stU, stD, reduceEqDiff, ↓reduceIte, ↓stV, stW, Nat.reduceAdd, evX_st, cells_int]; exact st64 (S := S) hg hx) ?_
    simp only [↓stU, stD, reduceEqDiff, ↓reduceIte, ↓stV, stW, Nat.reduceAdd]
    have hg2 : (S.h.set b (some (.cells (cells64 (l.set x.toNat v)) false sz))).get b = some (.cells (cells64 (l.set x.toNat v)) false sz) := by rw [T.get_set, if_pos rfl]
    have hld2 := ld64 hg2 (show x.toNat < (l.set x.toNat v).length by rw [List.length_set]; exact hx)
    rw [getD_set0 hx, if_pos rfl] at hld2
    refine wsr ?_
    simp only [↓stU, stD, reduceEqDiff, ↓reduceIte, ↓stV, stW, Nat.reduceAdd, hn, hia, hld2]
    refine wpc_ret ?_
    simp only [↓stU, stD, reduceEqDiff, ↓reduceIte, ↓stV, stW, Nat.reduceAdd]
    exact ⟨(SameBut.refl b S).put _, _, rfl, fun _ => ⟨hg2, fun h => absurd hlt (by omega)⟩, fun h => by simp at h⟩
  · refine wss ?_
    simp only [↓stU, stD, reduceEqDiff, ↓reduceIte, ↓stV, stW, Nat.reduceAdd, hn, hia, hld]
    refine wpc_non (by simp only [↓stU, stD, reduceEqDiff, ↓reduceIte, ↓stV, stW, Nat.reduceAdd, decide_eq_false hlt]) (wpc_skip ?_)
    try simp only [↓stU, stD, reduceEqDiff, ↓reduceIte, ↓stV, stW, Nat.reduceAdd]
    refine wsr ?_
    simp only [↓stU, stD, reduceEqDiff, ↓reduceIte, ↓stV, stW, Nat.reduceAdd, hn, hia, hld]
    refine wpc_ret ?_
    simp only [↓stU, stD, reduceEqDiff, ↓reduceIte, ↓stV, stW, Nat.reduceAdd]
    refine ⟨SameBut.refl b S, _, rfl, fun h => ?_, fun h => ?_⟩
    · rw [decide_eq_true_iff] at h
      exact ⟨by rw [set_same0 hx h]; exact hg, fun _ => h⟩
    · rw [decide_eq_false_iff_not] at h
      exact ⟨by omega, h⟩
def EqlI (S : St) (a b : AV) (l m : List Int) (k : Nat) (A : Act') (X : St) : Prop := A.inr = false ∧ Same S X ∧ ∃ i, i + k = l.length ∧ l.take i = m.take i ∧ tmpV 0 A.F = a ∧ tmpV 1 A.F = b ∧ tmpV 12 A.F = .int .i64 ((l.length : Nat) : Int) ∧ tmpV 13 A.F = .int .i64 (i : Int)
theorem equal_spec {S : St} {a b : AV} {l m : List Int} (H : Has fns) (ha : IsSl .i64 S a l) (hb : IsSl .i64 S b m) (hl : l.length ≤ 10000000) : wpf fns (.fn 152 [] []) [a, b] S fun r S' => r = .bool (decide (l = m)) ∧ Same S S' := by
  refine wpf_fn H.f152 (by simp) ?_
  simp only [↓stU, stD, reduceEqDiff, ↓reduceIte, Nat.reduceAdd]
  refine wsr ?_
  simp only [↓stU, stD, reduceEqDiff, ↓reduceIte, Nat.reduceAdd]
  refine wss ?_
  simp only [↓stU, stD, reduceEqDiff, ↓reduceIte, Nat.reduceAdd, ha.len, hb.len, Int.ofNat_eq_natCast]
  by_cases hlm : l.length = m.length
  rotate_left
  · rw [decide_eq_false (show ¬ l = m from fun e => hlm (by rw [e]))]
    refine wpc_yes (by simp only [↓stU, stD, reduceEqDiff, ↓reduceIte, Nat.reduceAdd, decide_eq_true (show ((l.length : Nat) : Int) ≠ ((m.length : Nat) : Int) by omega)]) ?_
    refine wsr ?_
    simp only [↓stU, stD, reduceEqDiff, ↓reduceIte, Nat.reduceAdd]
    refine wpc_ret ?_
    simp only [↓stU, stD, reduceEqDiff, ↓reduceIte, Nat.reduceAdd]
    exact Same.refl _
  refine wpc_non (by simp only [↓stU, stD, reduceEqDiff, ↓reduceIte, Nat.reduceAdd, decide_eq_false (show ¬ ((l.length : Nat) : Int) ≠ ((m.length : Nat) : Int) by omega)]) (wpc_skip ?_)
  try simp only [↓stU, stD, reduceEqDiff, ↓reduceIte, Nat.reduceAdd]
  refine wpc_seq (wpc_mono (Q := fun o A' X => (o = .normal ∧ EqlI S a b l m 0 A' X) ∨ (o = .ret ∧ Same S X ∧ l ≠ m ∧ tmpV 4 A'.F = .bool false)) (wpc_seq (wpc_reg ?_)) ?_)
  · simp only [↓stU, stD, reduceEqDiff, ↓reduceIte, Nat.reduceAdd, ha.len, Int.ofNat_eq_natCast]
    refine wpc_block (wpc_loop (EqlI S a b l m) ?_ l.length _ _ ⟨rfl, Same.refl _, 0, by omega, rfl, by simp only [↓stU, stD, reduceEqDiff, ↓reduceIte, Nat.reduceAdd], by simp only [↓stU, stD, reduceEqDiff, ↓reduceIte, Nat.reduceAdd], by simp only [↓stU, stD, reduceEqDiff, ↓reduceIte, Nat.reduceAdd], by simp only [↓stU, stD, reduceEqDiff, ↓reduceIte, Nat.reduceAdd]⟩)
    rintro k ⟨F, inr⟩ X ⟨q0, hX, i, hik, he, p0, p1, p12, p13⟩
    simp only at q0 p0 p1 p12 p13
    subst q0
    refine wsr ?_
    simp only [↓stU, stD, reduceEqDiff, ↓reduceIte, Nat.reduceAdd, p12, p13]
    by_cases hlt : i < l.length
    · refine wpc_seq (wpc_yes (by simp only [↓stU, stD, reduceEqDiff, ↓reduceIte, Nat.reduceAdd, decide_eq_true (show (i : Int) < ((l.length : Nat) : Int) by omega)]) (wpc_skip ?_))
      try simp only [↓stU, stD, reduceEqDiff, ↓reduceIte, Nat.reduceAdd]
      have hltm : i < m.length := by omega
      have ia := (ha.same hX).iaddr hlt
      have la := (ha.same hX).ld hlt
      have ib := (hb.same hX).iaddr hltm
      have lb := (hb.same hX).ld hltm
      have w1 : IntKind.i64.wrap ((i : Int) + 1) = ((i + 1 : Nat) : Int) := by rw [wrap_i64 (by omega) (by omega)]; omega
      refine wpc_seq (wpc_block (wpc_seq (wpc_reg ?_)))
      simp only [↓stU, stD, reduceEqDiff, ↓reduceIte, Nat.reduceAdd, p13]
      refine wpc_seq (wpc_drq ?_)
      simp only [↓stU, stD, reduceEqDiff, ↓reduceIte, Nat.reduceAdd, p0, p1, natOf_cast, ia, ib, la, lb]
      have el : l.getD i 0 = l[i] := by rw [List.getD_eq_getElem?_getD, List.getElem?_eq_getElem hlt]; rfl
      have em : m.getD i 0 = m[i] := by rw [List.getD_eq_getElem?_getD, List.getElem?_eq_getElem hltm]; rfl
      by_cases hx : l.getD i 0 = m.getD i 0
      · refine wpc_non (by simp only [↓stU, stD, reduceEqDiff, ↓reduceIte, Nat.reduceAdd, decide_eq_false (show ¬ l.getD i 0 ≠ m.getD i 0 from fun h => h hx)]) (wpc_skip ?_)
        try simp only [↓stU, stD, reduceEqDiff, ↓reduceIte, Nat.reduceAdd]
        refine wpc_reg ?_
        simp only [↓stU, stD, reduceEqDiff, ↓reduceIte, Nat.reduceAdd, p13, w1]
        refine ⟨k - 1, by omega, rfl, hX.trans (Same.nx _ _), i + 1, by omega, ?_, by simp only [↓stU, stD, reduceEqDiff, ↓reduceIte, Nat.reduceAdd, p0], by simp only [↓stU, stD, reduceEqDiff, ↓reduceIte, Nat.reduceAdd, p1], by simp only [↓stU, stD, reduceEqDiff, ↓reduceIte, Nat.reduceAdd, p12], by simp only [↓stU, stD, reduceEqDiff, ↓reduceIte, Nat.reduceAdd]⟩
        rw [List.take_add_one, List.take_add_one, he, List.getElem?_eq_getElem hlt, List.getElem?_eq_getElem hltm, ← el, ← em, hx]
      · refine wpc_yes (by simp only [↓stU, stD, reduceEqDiff, ↓reduceIte, Nat.reduceAdd, decide_eq_true (show l.getD i 0 ≠ m.getD i 0 from hx)]) ?_
        refine wsr ?_
        simp only [↓stU, stD, reduceEqDiff, ↓reduceIte, Nat.reduceAdd]
        refine wpc_ret ?_
        simp only [↓stU, stD, reduceEqDiff, ↓reduceIte, Nat.reduceAdd]
        exact .inr ⟨hX.trans (Same.nx _ _), fun e => hx (by rw [e])⟩
    · refine wpc_seq (wpc_non (by simp only [↓stU, stD, reduceEqDiff, ↓reduceIte, Nat.reduceAdd, decide_eq_false (show ¬ (i : Int) < ((l.length : Nat) : Int) by omega)]) (wpc_exit ?_))
      simp only [↓stU, stD, reduceEqDiff, ↓reduceIte, Nat.reduceAdd]
      have hk0 : k = 0 := by omega
      subst hk0
      exact .inl ⟨rfl, hX, i, hik, he, by simp only [↓stU, stD, reduceEqDiff, ↓reduceIte, Nat.reduceAdd, p0], by simp only [↓stU, stD, reduceEqDiff, ↓reduceIte, Nat.reduceAdd, p1], by simp only [↓stU, stD, reduceEqDiff, ↓reduceIte, Nat.reduceAdd, p12], by simp only [↓stU, stD, reduceEqDiff, ↓reduceIte, Nat.reduceAdd, p13]⟩
  rintro o ⟨F, inr⟩ X (⟨rfl, q0, hX, i, hik, he, p0, p1, p12, p13⟩ | ⟨rfl, hX, hne, p4⟩)
  rotate_left
  · simp only at p4
    simp only [↓stU, stD, reduceEqDiff, ↓reduceIte, Nat.reduceAdd, p4]
    rw [decide_eq_false hne]
    exact ⟨rfl, hX⟩
  simp only at q0
  subst q0
  rw [List.take_of_length_le (by omega), List.take_of_length_le (by omega)] at he
  rw [decide_eq_true he]
  try simp only [↓stU, stD, reduceEqDiff, ↓reduceIte, Nat.reduceAdd]
  refine wsr ?_
  simp only [↓stU, stD, reduceEqDiff, ↓reduceIte, Nat.reduceAdd]
  refine wpc_ret ?_
  simp only [↓stU, stD, reduceEqDiff, ↓reduceIte, Nat.reduceAdd]
  exact hX
end Go.Ev.Gl

namespace Go.Ev.Gl
variable {fns : T AFn}

/-! ## A region of plain operations with one guarded call and what is made of its result -/
theorem runQ_mono {h : Ev.T AB} {P P' : Fr → Prop} (hP : ∀ F, P F → P' F) : ∀ (l : List AO) (F : Fr), runQ l F h P → runQ l F h P'
  | [], F, hr => hP F hr
  | ⟨d, .q q, g, mm⟩ :: l, F, hr => by
    simp only [runQ] at hr ⊢
    split at hr
    · rename_i hw
      rw [if_pos hw]
      obtain ⟨w, hw1, hw2, hw3⟩ := hr
      exact ⟨w, hw1, hw2, runQ_mono hP l _ hw3⟩
    · rename_i hw
      rw [if_neg hw]
      exact runQ_mono hP l _ hr
  | ⟨d, .a a, g, mm⟩ :: l, F, hr => by cases hr
  | ⟨d, .x a, g, mm⟩ :: l, F, hr => by cases hr
theorem wpc_drc {ops pre : List AO} {K m m1 m2 s d e1 e2 : Nat} {b : Bool} {f : Opd} {args : List Opd} {q1 q2 : QOp} {A : Act'} {S : St} {Q : Out → Act' → St → Prop}
    (he : ops = pre ++ [⟨some d, .x (.call f args), some (s, b), m⟩, ⟨some e1, .q q1, some (s, b), m1⟩, ⟨some e2, .q q2, none, m2⟩]) (hK : pre.length = K) (h3 : (pre.all fun o => !Nat.testBit o.mask K) = true) (hm : ((List.range K).all fun i => Nat.testBit m i) = true) (hd : d ≠ s) (hq1 : isLoad q1 = false) (hq2 : isLoad q2 = false)
    (h : runQ pre A.F S.h fun F' => tmpV s F' = .bool b ∧ wpf fns (f.val F') (valsOf args F') ⟨S.h, S.nx + (K + 3)⟩ fun v S1 => ∃ w1 w2, evQ q1 (putF (some d) F' v) S1.h = some w1 ∧ evQ q2 (putF (some e1) (putF (some d) F' v) w1) S1.h = some w2 ∧ Q .normal ⟨putF (some e2) (putF (some e1) (putF (some d) F' v) w1) w2, A.inr⟩ S1) : wpc fns (.drw ops) A S Q := by
  subst he
  have hlen : (pre ++ [(⟨some d, .x (.call f args), some (s, b), m⟩ : AO), ⟨some e1, .q q1, some (s, b), m1⟩, ⟨some e2, .q q2, none, m2⟩]).length = K + 3 := by simp [hK]
  refine wpc_drw ?_
  rw [hlen]
  refine runQ_app (h := S.h) (K := K) (pre := pre) (i := 0) rfl (by omega) (fun o ho => by have := List.all_eq_true.1 h3 o ho; simpa using this) (fun l hl => by cases hl) ?_
  refine runQ_mono ?_ pre A.F h
  rintro F' ⟨hg, hw⟩ ls hls
  refine wpd_on hg (wpd_call rfl ?_)
  simp only [flush_nil]
  refine wpf_mono hw ?_
  rintro v S1 ⟨w1, w2, x1, x2, hQ⟩
  refine wpd_on (by rw [← hg]; simp only [tmpV_putF]; rw [if_neg (Ne.symm hd)]) ?_
  rw [wpd_qE]
  refine ⟨w1, x1, ?_⟩
  simp only [hq1, bsel_false]
  rw [wpd_qE]
  refine ⟨w2, x2, ?_⟩
  simp only [hq2, bsel_false]
  rw [wpd_nil]
  refine ⟨?_, ?_⟩
  · simp only [List.reverse_cons, List.reverse_nil, List.nil_append]
    refine loadsOk_of fun l hl => ?_
    obtain ⟨h1, h2, h4⟩ := hls l hl
    have hm2 := List.all_eq_true.1 hm l.i (List.mem_range.2 h2)
    unfold loadGo
    rw [h4, bsel_false, h1, bsel_true, hm2, bsel_true]
  · simp only [flush_nil]
    exact hQ

/-! ## Some blocks alone are written -/
def ButW (W : Nat → Prop) (S X : St) : Prop := S.nx ≤ X.nx ∧ ∀ c, c < S.nx → ¬ W c → X.h.get c = S.h.get c
section
variable {W : Nat → Prop} {S X Y : St} {b : Nat}
theorem ButW.refl (W : Nat → Prop) (S : St) : ButW W S S := ⟨Nat.le_refl _, fun _ _ _ => rfl⟩
theorem ButW.trans (h : ButW W S X) (h' : ButW W X Y) : ButW W S Y := ⟨Nat.le_trans h.1 h'.1, fun c hc hw => (h'.2 c (Nat.lt_of_lt_of_le hc h.1) hw).trans (h.2 c hc hw)⟩
theorem Same.butW (h : Same S X) : ButW W S X := ⟨h.1, fun c hc _ => h.2 c hc⟩
theorem SameBut.butW (h : SameBut b S X) (hb : W b) : ButW W S X := ⟨h.1, fun c hc hw => h.2 c hc fun e => hw (by rw [e]; exact hb)⟩
theorem ButW.same {S0 : St} (h : ButW W S X) (h0 : Same S0 S) (hW : ∀ b, W b → S0.nx ≤ b) : Same S0 X := ⟨Nat.le_trans h0.1 h.1, fun c hc => (h.2 c (Nat.lt_of_lt_of_le hc h0.1) fun hw => by have := hW c hw; omega).trans (h0.2 c hc)⟩
end
/-- where the walk's variables lie -/
structure Lay where
  sb : Nat
  ob : Nat
  fb : Nat
  mb : Nat
  kb : Nat
  wb : Nat
  ib : Nat
  rb : Nat
  ab : Nat
  bs : Nat → Nat
  cs : List AV
/-- the blocks that it writes -/
def Lay.W (L : Lay) (n c : Nat) : Prop := c = L.ib ∨ c = L.rb ∨ ∃ j, j < n ∧ c = L.bs j
def Lay.fn (L : Lay) : AV := .fn 156 [] [.ptr L.sb 0, .ptr L.ob 0, .ptr L.fb 0, .ptr L.mb 0, .ptr L.kb 0]
structure Laid (L : Lay) (S0 S1 : St) (n : Nat) (mv : AV) : Prop where
  s01 : Same S0 S1
  gs : S1.h.get L.sb = some (.cells [.ptr L.wb 0] false 0)
  go : S1.h.get L.ob = some (.cells [.sl L.ib 0 n n false, .sl L.ab 0 n n false] false 0)
  gf : S1.h.get L.fb = some (.cells [.sl L.rb 0 n n false] false 0)
  gm : S1.h.get L.mb = some (.cells [mv] false 0)
  gk : S1.h.get L.kb = some (.cells [L.fn] false 0)
  ga : S1.h.get L.ab = some (.cells L.cs false 0)
  ls : L.sb < S1.nx ∧ ¬ L.W n L.sb
  lo : L.ob < S1.nx ∧ ¬ L.W n L.ob
  lf : L.fb < S1.nx ∧ ¬ L.W n L.fb
  lm : L.mb < S1.nx ∧ ¬ L.W n L.mb
  lk : L.kb < S1.nx ∧ ¬ L.W n L.kb
  la : L.ab < S1.nx ∧ ¬ L.W n L.ab
  w0 : ∀ b, L.W n b → S0.nx ≤ b ∧ b < S1.nx
  ir : L.ib ≠ L.rb
  is : ∀ j, j < n → L.ib ≠ L.bs j ∧ L.rb ≠ L.bs j
structure Dyn (L : Lay) (S0 X : St) (I F : List Int) (A : List (List Int)) : Prop where
  gi : X.h.get L.ib = some (.cells (cells64 I) false 0)
  gr : X.h.get L.rb = some (.cells (cells64 F) false 0)
  rw : Rws S0 X L.bs L.cs A
section
variable {L : Lay} {S0 S1 X Y : St} {n : Nat} {mv : AV} {I F : List Int} {A : List (List Int)}
theorem Laid.s (h : Laid L S0 S1 n mv) (hX : ButW (L.W n) S1 X) : X.h.get L.sb = some (.cells [.ptr L.wb 0] false 0) := (hX.2 _ h.ls.1 h.ls.2).trans h.gs
theorem Laid.o (h : Laid L S0 S1 n mv) (hX : ButW (L.W n) S1 X) : X.h.get L.ob = some (.cells [.sl L.ib 0 n n false, .sl L.ab 0 n n false] false 0) := (hX.2 _ h.lo.1 h.lo.2).trans h.go
theorem Laid.f (h : Laid L S0 S1 n mv) (hX : ButW (L.W n) S1 X) : X.h.get L.fb = some (.cells [.sl L.rb 0 n n false] false 0) := (hX.2 _ h.lf.1 h.lf.2).trans h.gf
theorem Laid.m (h : Laid L S0 S1 n mv) (hX : ButW (L.W n) S1 X) : X.h.get L.mb = some (.cells [mv] false 0) := (hX.2 _ h.lm.1 h.lm.2).trans h.gm
theorem Laid.k (h : Laid L S0 S1 n mv) (hX : ButW (L.W n) S1 X) : X.h.get L.kb = some (.cells [L.fn] false 0) := (hX.2 _ h.lk.1 h.lk.2).trans h.gk
theorem Laid.a (h : Laid L S0 S1 n mv) (hX : ButW (L.W n) S1 X) : X.h.get L.ab = some (.cells L.cs false 0) := (hX.2 _ h.la.1 h.la.2).trans h.ga
theorem Laid.same (h : Laid L S0 S1 n mv) (hX : ButW (L.W n) S1 X) : Same S0 X := hX.same h.s01 fun b hb => (h.w0 b hb).1
theorem Laid.move (h : Laid L S0 S1 n mv) (hX : ButW (L.W n) S1 X) : Laid L S0 X n mv :=
  ⟨h.same hX, h.s hX, h.o hX, h.f hX, h.m hX, h.k hX, h.a hX, ⟨Nat.lt_of_lt_of_le h.ls.1 hX.1, h.ls.2⟩, ⟨Nat.lt_of_lt_of_le h.lo.1 hX.1, h.lo.2⟩, ⟨Nat.lt_of_lt_of_le h.lf.1 hX.1, h.lf.2⟩, ⟨Nat.lt_of_lt_of_le h.lm.1 hX.1, h.lm.2⟩, ⟨Nat.lt_of_lt_of_le h.lk.1 hX.1, h.lk.2⟩, ⟨Nat.lt_of_lt_of_le h.la.1 hX.1, h.la.2⟩, fun b hb => ⟨(h.w0 b hb).1, Nat.lt_of_lt_of_le (h.w0 b hb).2 hX.1⟩, h.ir, h.is⟩
theorem Dyn.same (h : Dyn L S0 X I F A) (hL : Laid L S0 S1 n mv) (h1 : S1.nx ≤ X.nx) (hs : Same X Y) : Dyn L S0 Y I F A :=
  ⟨(hs.2 _ (Nat.lt_of_lt_of_le (hL.w0 _ (.inl rfl)).2 h1)).trans h.gi, (hs.2 _ (Nat.lt_of_lt_of_le (hL.w0 _ (.inr (.inl rfl))).2 h1)).trans h.gr, h.rw.same hs⟩
end
end Go.Ev.Gl

namespace Go.Ev.Gl
variable {fns : T AFn}

/-! ## The program's walk over pairs of nodes -/
def WkT (L : Lay) (F : Fr) (xb yb to : Nat) : Prop := tmpV 1 F = .int .i64 (to : Int) ∧ tmpV 2 F = .ptr L.sb 0 ∧ tmpV 3 F = .ptr L.ob 0 ∧ tmpV 4 F = .ptr L.fb 0 ∧ tmpV 5 F = .ptr L.mb 0 ∧ tmpV 6 F = .ptr L.kb 0 ∧ tmpV 10 F = .ptr xb 0 ∧ tmpV 11 F = .ptr yb 0
def KdT (L : Lay) (F : Fr) (xb yb to j r v ln : Nat) (xa : AV) (b : Bool) : Prop := WkT L F xb yb to ∧ tmpV 12 F = .bool b ∧ tmpV 13 F = .int .i64 (j : Int) ∧ tmpV 14 F = .int .i64 (r : Int) ∧ tmpV 15 F = .int .i64 (v : Int) ∧ tmpV 88 F = xa ∧ tmpV 89 F = .int .i64 (ln : Int) ∧ tmpV 90 F = .int .i64 (j : Int)
noncomputable def agC : List AO := [⟨(some 130),(.q (.mv (.t 12))),none,0⟩,
⟨(some 131),(.q (.mv (.t 130))),none,1⟩,
⟨(some 132),(.q (.faddr 1 (.t 3))),(some (131,true)),3⟩,
⟨(some 133),(.q (.ld false 1 (.t 132))),(some (131,true)),7⟩,
⟨(some 134),(.q (.faddr 2 (.t 10))),(some (131,true)),3⟩,
⟨(some 135),(.q (.ld false 1 (.t 134))),(some (131,true)),19⟩,
⟨(some 136),(.q (.iaddr (.slice 1) (.t 133) (.t 135))),(some (131,true)),63⟩,
⟨(some 137),(.q (.ld false 1 (.t 136))),(some (131,true)),127⟩,
⟨(some 138),(.q (.mv (.t 13))),(some (131,true)),3⟩,
⟨(some 139),(.q (.ld false 1 (.t 2))),(some (131,true)),3⟩,
⟨(some 140),(.q (.nilchk (.t 139))),(some (131,true)),515⟩,
⟨(some 141),(.q (.faddr 4 (.t 140))),(some (131,true)),1539⟩,
⟨(some 142),(.q (.ld false 1 (.t 141))),(some (131,true)),3587⟩,
⟨(some 143),(.q (.mv (.t 15))),(some (131,true)),3⟩,
⟨(some 144),(.q (.iaddr (.slice 1) (.t 142) (.t 143))),(some (131,true)),15875⟩,
⟨(some 145),(.q (.ld false 1 (.t 144))),(some (131,true)),32259⟩]
def WkF (L : Lay) (S1 : St) (g : PGame) (m : List Int) (A : Act') (X : St) : Prop := ButW (L.W g.infos.length) S1 X ∧ ¬ Auto g m ∧ tmpV 9 A.F = .bool false
def KidW (L : Lay) (S0 S1 : St) (g : PGame) (m : List Int) (i e xb yb : Nat) (xa : AV) (cx cy : Option AB) (rec : Nat → Option (List Trip)) (k : Nat) (A : Act') (X : St) : Prop := A.inr = false ∧ ButW (L.W g.infos.length) S1 X ∧ xb < X.nx ∧ yb < X.nx ∧ ∃ (j r : Nat) (Tr : List Trip) (I F : List Int) (As : List (List Int)), j + k = (nodeAt g i).next.length ∧ kidsL rec ((nodeAt g i).next.drop j) r = some Tr ∧ r + Tr.length = e ∧ Dyn L S0 X I F As ∧ SeenP g m r r I F As ∧ WkT L A.F xb yb (toM m i) ∧ X.h.get xb = cx ∧ X.h.get yb = cy ∧ tmpV 12 A.F = .bool (decide ((nodeAt g i).kind = 2)) ∧ tmpV 88 A.F = xa ∧ tmpV 89 A.F = .int .i64 (((nodeAt g i).next.length : Nat) : Int) ∧ tmpV 90 A.F = .int .i64 (j : Int)

set_option maxHeartbeats 4000000 in
theorem iwalk_spec {S0 : St} {L : Lay} {nv iv pv mv : AV} {g : PGame} {m : List Int} {T : List Trip} {Z : List Int} {plb szb : Nat} (H : Has fns) (hn : IsSlG 6 NodeE S0 nv g.nodes) (hm : IsSl .i64 S0 mv m) (G : GoodG g) (M : MapG g m) (hTl : T.length = g.nodes.length) (hW : WF (nextOf g) 0 (-1) T) (hpv : IsSl .i64 S0 pv (T.map (·.1))) (hB : SceneB S0 L.wb plb szb pv nv iv g (placeL g) Z):
    ∀ (f : Nat) {X : St} {i : Nat} {p d : Int} {T' : List Trip} {I F : List Int} {A : List (List Int)}, walkL g.nodes.length (nextOf g) f i p d = some T' → Laid L S0 X g.infos.length mv → Dyn L S0 X I F A → SeenP g m i (i + 1) I F A →
    wpf fns L.fn [.int .i64 (i : Int), .int .i64 ((toM m i : Nat) : Int)] X fun r X' => ButW (L.W g.infos.length) X X' ∧ ∃ t, r = .bool t ∧ (t = false → ¬ Auto g m) ∧ (t = true → ∃ I' F' A', Dyn L S0 X' I' F' A' ∧ SeenP g m (i + T'.length) (i + T'.length) I' F' A') := by
  have hN := G.n2
  have hNI := G.ni
  intro f
  induction f with
  | zero => intro X i p d T' I F A hT'; cases hT'
  | succ f ih =>
    intro X i p d T' I F A hT' C hD hS
    have hX : ButW (L.W g.infos.length) X X := ButW.refl _ _
    simp only [walkL] at hT'
    split at hT'
    rotate_left
    · cases hT'
    rename_i hlt
    obtain ⟨L', hkids, rfl⟩ := Option.map_eq_some_iff.1 hT'
    rw [nextOf_at] at hkids
    have lX := hX.1
    have sX : Same S0 X := C.same hX
    have hWB := (hB.w.same sX).1
    have lwX := (hB.w.same sX).2
    have lds := ldrow (p := 0) (C.s hX) rfl
    have lsX : L.sb < X.nx := Nat.lt_of_lt_of_le C.ls.1 lX
    obtain ⟨hto, htoN⟩ := M.at hlt
    obtain ⟨_, bx, qx, hiax, hbx, _, ⟨xa, xw, xp, rfl, hxa, hxw, hxp⟩, hldx, _⟩ := IsSlG.at hn (by decide) (nodeAt_some hlt)
    obtain ⟨_, by', qy, hiay, hby, _, ⟨ya, yw, yp, rfl, hya, hyw, hyp⟩, hldy, _⟩ := IsSlG.at hn (by decide) (nodeAt_some htoN)
    rw [← ldSame sX hbx] at hldx
    rw [← ldSame sX hby] at hldy
    have snv := IsSlG.self hn
    have sx := agg_node (k := .i64) (x0 := (nodeAt g i).kind) (x1 := (nodeAt g i).player) (x2 := (nodeAt g i).info) (IsSl.self hxa) (IsSl.self hxw) (IsSl.self hxp)
    have sy := agg_node (k := .i64) (x0 := (nodeAt g (toM m i)).kind) (x1 := (nodeAt g (toM m i)).player) (x2 := (nodeAt g (toM m i)).info) (IsSl.self hya) (IsSl.self hyw) (IsSl.self hyp)
    have lbx : bx < X.nx := Nat.lt_of_lt_of_le hbx sX.1
    have lby : by' < X.nx := Nat.lt_of_lt_of_le hby sX.1
    show wpf fns (.fn 156 [] [.ptr L.sb 0, .ptr L.ob 0, .ptr L.fb 0, .ptr L.mb 0, .ptr L.kb 0]) _ _ _
    refine wpf_fn H.f156 (by simp) ?_
    simp only [↓stU, stD, reduceEqDiff, ↓reduceIte, ↓stV, stW, Nat.reduceAdd]
    refine wsr ?_
    simp only [↓stU, stD, reduceEqDiff, ↓reduceIte, ↓stV, stW, Nat.reduceAdd]
    refine wpc_seq (wpc_drd (fun _ => False) ?_)
    simp only [↓stU, stD, reduceEqDiff, ↓reduceIte, ↓stV, stW, Nat.reduceAdd, lds, lsX, not_false_eq_true, evQ_nilchk, isLoad_nilchk, nilchk_ptr, evQ_faddr, isLoad_faddr, faddr_ptr, ld6_1 hWB, lwX, snv, natOf_cast, hiax, hldx, sx, lbx, hiay, hldy, sy, lby, evA_alloc]
    refine two_st (n := 6) rfl rfl rfl (by simp only [↓stU, stD, reduceEqDiff, ↓reduceIte, ↓stV, stW, Nat.reduceAdd]) (by simp only [↓stU, stD, reduceEqDiff, ↓reduceIte, ↓stV, stW, Nat.reduceAdd]) (by simp only [↓stU, stD, reduceEqDiff, ↓reduceIte, ↓stV, stW, Nat.reduceAdd]; exact cells_agg _) (by simp only [↓stU, stD, reduceEqDiff, ↓reduceIte, ↓stV, stW, Nat.reduceAdd]; exact cells_agg _) rfl rfl rfl (by omega) (by omega) (by omega) ?_
    intro X1 hX1n hgx hgy hX1
    rw [flush_nil]
    have hX1n : X1.nx = X.nx + 20 := hX1n
    have sX1 : Same X X1 := ⟨by omega, fun c hc => hX1 c (by omega) (by omega)⟩
    have lx1 : X.nx + 16 < X1.nx := by omega
    have ly1 : X.nx + 17 < X1.nx := by omega
    show wpc fns _ _ X1 _
    refine wpc_seq (wpc_seq (wpc_mono (Q := fun o A' Y => o = .normal ∧ A'.inr = false ∧ Same X1 Y ∧ WkT L A'.F (X.nx + 16) (X.nx + 17) (toM m i) ∧ ∃ t, tmpV 60 A'.F = .bool t ∧ (t = true ↔ ¬ Like g m i)) (wpc_reg ?_) ?_))
    · have sX1' := sX.trans sX1
      have hxa1 := hxa.same sX1'
      have hya1 := hya.same sX1'
      have hxp1 := hxp.same sX1'
      have hyp1 := hyp.same sX1'
      by_cases q1 : (nodeAt g i).kind = (nodeAt g (toM m i)).kind
      rotate_left
      · simp only [↓stU, stD, reduceEqDiff, ↓reduceIte, ↓stV, stW, Nat.reduceAdd, evQ_faddr, faddr_ptr, ld6_0 hgx, ld6_0 hgy, decide_eq_true (show (nodeAt g i).kind ≠ (nodeAt g (toM m i)).kind from q1), WkT]
        exact ⟨Same.refl _, true, rfl, fun _ h => q1 h.1, fun _ => rfl⟩
      have q1' := decide_eq_false (show ¬ (nodeAt g i).kind ≠ (nodeAt g (toM m i)).kind from fun h => h q1)
      by_cases q4 : (nodeAt g i).player = (nodeAt g (toM m i)).player
      rotate_left
      · simp only [↓stU, stD, reduceEqDiff, ↓reduceIte, ↓stV, stW, Nat.reduceAdd, evQ_faddr, faddr_ptr, ld6_0 hgx, ld6_0 hgy, ld6_1 hgx, ld6_1 hgy, q1', decide_eq_true (show (nodeAt g i).player ≠ (nodeAt g (toM m i)).player from q4), WkT]
        exact ⟨Same.refl _, true, rfl, fun _ h => q4 h.2.2.2, fun _ => rfl⟩
      have q4' := decide_eq_false (show ¬ (nodeAt g i).player ≠ (nodeAt g (toM m i)).player from fun h => h q4)
      by_cases q2 : (nodeAt g i).next.length = (nodeAt g (toM m i)).next.length
      rotate_left
      · simp only [↓stU, stD, reduceEqDiff, ↓reduceIte, ↓stV, stW, Nat.reduceAdd, evQ_faddr, faddr_ptr, ld6_0 hgx, ld6_0 hgy, ld6_1 hgx, ld6_1 hgy, ld6_3 hgx, ld6_3 hgy, hxa1.len, hya1.len, Int.ofNat_eq_natCast, q1', q4', decide_eq_true (show (((nodeAt g i).next.length : Nat) : Int) ≠ (((nodeAt g (toM m i)).next.length : Nat) : Int) by omega), WkT]
        exact ⟨Same.refl _, true, rfl, fun _ h => q2 h.2.1, fun _ => rfl⟩
      simp only [↓stU, stD, reduceEqDiff, ↓reduceIte, ↓stV, stW, Nat.reduceAdd, evQ_faddr, faddr_ptr, ld6_0 hgx, ld6_0 hgy, ld6_1 hgx, ld6_1 hgy, ld6_3 hgx, ld6_3 hgy, ld6_5 hgx, ld6_5 hgy, hxa1.len, hya1.len, Int.ofNat_eq_natCast, q1', q4', decide_eq_false (show ¬ (((nodeAt g i).next.length : Nat) : Int) ≠ (((nodeAt g (toM m i)).next.length : Nat) : Int) by omega), WkT]
      refine wpo_call ?_
      simp only [↓stU, stD, reduceEqDiff, ↓reduceIte, ↓stV, stW, Nat.reduceAdd]
      refine wpf_mono (equal_spec H hxp1 hyp1 (by have := G.pay i hlt; omega)) ?_
      rintro _ Y ⟨rfl, hY⟩
      simp only [↓stU, stD, reduceEqDiff, ↓reduceIte, ↓stV, stW, Nat.reduceAdd, un_not]
      refine ⟨hY, _, rfl, ?_⟩
      by_cases q3 : (nodeAt g i).pay = (nodeAt g (toM m i)).pay
      · rw [decide_eq_true q3]
        exact ⟨fun h => (by cases h), fun h => absurd ⟨q1, q2, q3, q4⟩ h⟩
      · rw [decide_eq_false q3]
        exact ⟨fun _ h => q3 h.2.2.1, fun _ => rfl⟩
    rintro o ⟨F0, inr⟩ Y ⟨rfl, q0, hY, hP, t, p60, hLt⟩
    simp only at q0 hP p60
    subst q0
    obtain ⟨p1, p2, p3, p4, p5, p6, p10, p11⟩ := hP
    have sXY := sX1.trans hY
    have bY : ButW (L.W g.infos.length) X Y := hX.trans (Same.butW sXY)
    try simp only [↓stU, stD, reduceEqDiff, ↓reduceIte, ↓stV, stW, Nat.reduceAdd]
    cases t with
    | true =>
      refine wpc_yes (by simp only [↓stU, stD, reduceEqDiff, ↓reduceIte, ↓stV, stW, Nat.reduceAdd, p60]) ?_
      refine wsr ?_
      simp only [↓stU, stD, reduceEqDiff, ↓reduceIte, ↓stV, stW, Nat.reduceAdd]
      refine wpc_ret ?_
      simp only [↓stU, stD, reduceEqDiff, ↓reduceIte, ↓stV, stW, Nat.reduceAdd]
      exact ⟨bY, false, rfl, fun _ => no_like hlt (hLt.1 rfl), fun h => by cases h⟩
    | false =>
    have hL : Like g m i := Classical.byContradiction fun h => by have := hLt.2 h; cases this
    refine wpc_non (by simp only [↓stU, stD, reduceEqDiff, ↓reduceIte, ↓stV, stW, Nat.reduceAdd, p60]) (wpc_skip ?_)
    try simp only [↓stU, stD, reduceEqDiff, ↓reduceIte, ↓stV, stW, Nat.reduceAdd]
    clear p60 hLt
    have hDY : Dyn L S0 Y I F A := hD.same C lX sXY
    have hgxY := (hY.2 _ lx1).trans hgx
    have hgyY := (hY.2 _ ly1).trans hgy
    have lxY : X.nx + 16 < Y.nx := Nat.lt_of_lt_of_le lx1 hY.1
    have lyY : X.nx + 17 < Y.nx := Nat.lt_of_lt_of_le ly1 hY.1
    have nWx : ∀ {b}, X.nx ≤ b → ¬ L.W g.infos.length b := fun {b} hb hw => by have := (C.w0 b hw).2; omega
    clear hgx hgy hX1 hX1n hldx hldy
    refine wsr ?_
    simp only [↓stU, stD, reduceEqDiff, ↓reduceIte, ↓stV, stW, Nat.reduceAdd, p10, evQ_faddr, faddr_ptr, ld6_0 hgxY]
    refine wpc_seq (wpc_mono (Q := fun o A' Z => (o = .normal ∧ A'.inr = false ∧ ButW (L.W g.infos.length) X Z ∧ ButW (L.W g.infos.length) Y Z ∧ (∃ I' F', Dyn L S0 Z I' F' A ∧ SeenP g m (i + 1) (i + 1) I' F' A) ∧ WkT L A'.F (X.nx + 16) (X.nx + 17) (toM m i) ∧ tmpV 12 A'.F = .bool (decide ((nodeAt g i).kind = 2))) ∨ (o = .ret ∧ WkF L X g m A' Z)) (wpc_seq (wpc_mono (Q := fun o A' Z => o = .normal ∧ A'.inr = false ∧ ButW (L.W g.infos.length) X Z ∧ ButW (L.W g.infos.length) Y Z ∧ WkT L A'.F (X.nx + 16) (X.nx + 17) (toM m i) ∧ tmpV 12 A'.F = .bool (decide ((nodeAt g i).kind = 2)) ∧ ∃ t, tmpV 86 A'.F = .bool t ∧ (t = true → ¬ Auto g m) ∧ (t = false → ∃ I' F', Dyn L S0 Z I' F' A ∧ SeenP g m (i + 1) (i + 1) I' F' A)) (wpc_reg ?_) ?_)) ?_)
    · by_cases hk : (nodeAt g i).kind = 2
      rotate_left
      · simp only [↓stU, stD, reduceEqDiff, ↓reduceIte, ↓stV, stW, Nat.reduceAdd, decide_eq_false hk, WkT, p1, p2, p3, p4, p5, p6, p10, p11]
        exact ⟨bY, ButW.refl _ _, false, rfl, fun h => (by cases h), fun _ => ⟨I, F, hDY, hS.node hL hk⟩⟩
      obtain ⟨a1, a2, a3⟩ := G.inf i hlt hk
      obtain ⟨c1, c2⟩ := like_info G M hlt hL hk
      have hsI : (nodeAt g i).info.toNat < I.length := by rw [hS.s.li]; omega
      have hsF : (nodeAt g (toM m i)).info.toNat < F.length := by rw [hS.lf]; omega
      have rI : rowV L.ib I = .sl L.ib 0 g.infos.length g.infos.length false := by unfold rowV; rw [hS.s.li]
      have rF : rowV L.rb F = .sl L.rb 0 g.infos.length g.infos.length false := by unfold rowV; rw [hS.lf]
      have lo0 := ldc (j := 0) (C.o bY) rfl
      have lf0 := ldrow (p := 0) (C.f bY) rfl
      simp only [↓stU, stD, reduceEqDiff, ↓reduceIte, ↓stV, stW, Nat.reduceAdd, decide_eq_true hk, p3, p10, p11, evQ_faddr, faddr_ptr, lo0, ld6_2 hgxY, ld6_2 hgyY]
      refine wpo_call ?_
      simp only [↓stU, stD, reduceEqDiff, ↓reduceIte, ↓stV, stW, Nat.reduceAdd]
      have hag := agree_spec (v := (nodeAt g (toM m i)).info) H hDY.gi a1 hsI
      rw [rI] at hag
      refine wpf_mono hag ?_
      rintro _ Y2 ⟨hY2, t, rfl, ht1, ht0⟩
      have wib : L.W g.infos.length L.ib := .inl rfl
      have bY2 := bY.trans (hY2.butW wib)
      cases t with
      | false =>
        simp only [↓stU, stD, reduceEqDiff, ↓reduceIte, ↓stV, stW, Nat.reduceAdd, un_not, Bool.not_false, WkT, p1, p2, p3, p4, p5, p6, p10, p11, decide_eq_true hk]
        exact ⟨bY2, hY2.butW wib, true, rfl, fun _ => hS.s.no_info G hlt hk (ht0 rfl).1 (ht0 rfl).2, fun h => by cases h⟩
      | true =>
      obtain ⟨gi2, hI⟩ := ht1 rfl
      have xgY2 : Y2.h.get (X.nx + 16) = _ := (hY2.2 _ lxY (fun e => nWx (b := X.nx + 16) (by omega) (by rw [e]; exact wib))).trans hgxY
      have ygY2 : Y2.h.get (X.nx + 17) = _ := (hY2.2 _ lyY (fun e => nWx (b := X.nx + 17) (by omega) (by rw [e]; exact wib))).trans hgyY
      have lf2 := ldrow (p := 0) (C.f bY2) rfl
      simp only [↓stU, stD, reduceEqDiff, ↓reduceIte, ↓stV, stW, Nat.reduceAdd, un_not, Bool.not_true, p4, p10, p11, evQ_faddr, faddr_ptr, lf2, ld6_2 xgY2, ld6_2 ygY2]
      refine wpo_call ?_
      simp only [↓stU, stD, reduceEqDiff, ↓reduceIte, ↓stV, stW, Nat.reduceAdd]
      have wrb : L.W g.infos.length L.rb := .inr (.inl rfl)
      have lrb : L.rb < Y.nx := Nat.lt_of_lt_of_le (C.w0 _ wrb).2 bY.1
      have lib : L.ib < Y.nx := Nat.lt_of_lt_of_le (C.w0 _ wib).2 bY.1
      have gr2 := (hY2.2 _ lrb (Ne.symm C.ir)).trans hDY.gr
      have hag2 := agree_spec (v := (nodeAt g i).info) H gr2 c1 hsF
      rw [rF] at hag2
      refine wpf_mono hag2 ?_
      rintro _ Y3 ⟨hY3, t, rfl, ht1, ht0⟩
      have bY3 := bY2.trans (hY3.butW wrb)
      have bYY3 := (hY2.butW wib).trans (hY3.butW wrb)
      cases t with
      | false =>
        simp only [↓stU, stD, reduceEqDiff, ↓reduceIte, ↓stV, stW, Nat.reduceAdd, un_not, Bool.not_false, WkT, p1, p2, p3, p4, p5, p6, p10, p11, decide_eq_true hk]
        exact ⟨bY3, bYY3, true, rfl, fun _ => hS.no_from G M hlt hL hk (ht0 rfl).1 (ht0 rfl).2, fun h => by cases h⟩
      | true =>
      obtain ⟨gr3, hF⟩ := ht1 rfl
      simp only [↓stU, stD, reduceEqDiff, ↓reduceIte, ↓stV, stW, Nat.reduceAdd, un_not, Bool.not_true, WkT, p1, p2, p3, p4, p5, p6, p10, p11, decide_eq_true hk]
      refine ⟨bY3, bYY3, false, rfl, fun h => (by cases h), fun _ => ⟨_, _, ⟨?_, gr3, hDY.rw.move bYY3.1 fun j hj => ?_⟩, hS.nodeM G M hlt hL hk hI hF⟩⟩
      · rw [hY3.2 _ (Nat.lt_of_lt_of_le lib hY2.1) C.ir]; exact gi2
      · have hjn : j < g.infos.length := by rw [← hS.s.la]; exact hj
        have ljb := (hDY.rw.bl j hj).2.1
        rw [hY3.2 _ (Nat.lt_of_lt_of_le ljb hY2.1) (Ne.symm (C.is j hjn).2), hY2.2 _ ljb (Ne.symm (C.is j hjn).1)]
    · clear p1 p2 p3 p4 p5 p6 p10 p11
      rintro o ⟨F1, inr⟩ Z ⟨rfl, q0, bZ, bYZ, hP, p12, t, p86, ht1, ht0⟩
      simp only at q0 hP p12 p86
      subst q0
      obtain ⟨p1, p2, p3, p4, p5, p6, p10, p11⟩ := hP
      try simp only [↓stU, stD, reduceEqDiff, ↓reduceIte, ↓stV, stW, Nat.reduceAdd]
      cases t with
      | true =>
        refine wpc_yes (by simp only [↓stU, stD, reduceEqDiff, ↓reduceIte, ↓stV, stW, Nat.reduceAdd, p86]) ?_
        refine wsr ?_
        simp only [↓stU, stD, reduceEqDiff, ↓reduceIte, ↓stV, stW, Nat.reduceAdd]
        refine wpc_ret ?_
        refine .inr ⟨rfl, bZ, ht1 rfl, ?_⟩
        simp only [↓stU, stD, reduceEqDiff, ↓reduceIte, ↓stV, stW, Nat.reduceAdd]
      | false =>
        refine wpc_non (by simp only [↓stU, stD, reduceEqDiff, ↓reduceIte, ↓stV, stW, Nat.reduceAdd, p86]) (wpc_skip ?_)
        exact .inl ⟨rfl, rfl, bZ, bYZ, ht0 rfl, ⟨p1, p2, p3, p4, p5, p6, p10, p11⟩, p12⟩
    clear p1 p2 p3 p4 p5 p6 p10 p11
    rintro o ⟨F1, inr⟩ Z (⟨rfl, q0, bZ, bYZ, ⟨I', F', hDZ, hSZ⟩, hP, p12⟩ | ⟨rfl, hf⟩)
    rotate_left
    · obtain ⟨h1, h2, h3⟩ := hf
      simp only [↓stU, stD, reduceEqDiff, ↓reduceIte, ↓stV, stW, Nat.reduceAdd, h3]
      exact ⟨h1, false, rfl, fun _ => h2, fun h => by cases h⟩
    simp only at q0 hP p12
    subst q0
    obtain ⟨p1, p2, p3, p4, p5, p6, p10, p11⟩ := hP
    have exZ := (bYZ.2 _ lxY (nWx (by omega))).trans hgxY
    have eyZ := (bYZ.2 _ lyY (nWx (by omega))).trans hgyY
    have lxZ : X.nx + 16 < Z.nx := Nat.lt_of_lt_of_le lxY bYZ.1
    have lyZ : X.nx + 17 < Z.nx := Nat.lt_of_lt_of_le lyY bYZ.1
    clear hgxY hgyY lxY lyY hDY
    have sZ := C.same bZ
    have hxaZ := hxa.same sZ
    try simp only [↓stU, stD, reduceEqDiff, ↓reduceIte, ↓stV, stW, Nat.reduceAdd]
    refine wss ?_
    simp only [↓stU, stD, reduceEqDiff, ↓reduceIte, ↓stV, stW, Nat.reduceAdd, p10, evQ_faddr, faddr_ptr, ld6_3 exZ, hxaZ.len, Int.ofNat_eq_natCast]
    refine wpc_mono (Q := fun o A' V => (o = .normal ∧ KidW L S0 X g m i (i + (L'.length + 1)) (X.nx + 16) (X.nx + 17) xa (Z.h.get (X.nx + 16)) (Z.h.get (X.nx + 17)) (fun r => walkL g.nodes.length (nextOf g) f r i (d + 1)) 0 A' V) ∨ (o = .ret ∧ WkF L X g m A' V)) (wpc_block (wpc_loop (KidW L S0 X g m i (i + (L'.length + 1)) (X.nx + 16) (X.nx + 17) xa (Z.h.get (X.nx + 16)) (Z.h.get (X.nx + 17)) (fun r => walkL g.nodes.length (nextOf g) f r i (d + 1))) ?_ (nodeAt g i).next.length _ _ ⟨rfl, bZ, lxZ, lyZ, 0, i + 1, L', I', F', A, by omega, by rw [List.drop_zero]; exact hkids, by omega, hDZ, hSZ, (by simp only [↓stU, stD, reduceEqDiff, ↓reduceIte, ↓stV, stW, Nat.reduceAdd, WkT, p1, p2, p3, p4, p5, p6, p10, p11]), rfl, rfl, (by simp only [↓stU, stD, reduceEqDiff, ↓reduceIte, ↓stV, stW, Nat.reduceAdd, p12]), (by simp only [↓stU, stD, reduceEqDiff, ↓reduceIte, ↓stV, stW, Nat.reduceAdd]), (by simp only [↓stU, stD, reduceEqDiff, ↓reduceIte, ↓stV, stW, Nat.reduceAdd]), (by simp only [↓stU, stD, reduceEqDiff, ↓reduceIte, ↓stV, stW, Nat.reduceAdd])⟩)) ?_
    · clear p1 p2 p3 p4 p5 p6 p10 p11 p12 hDZ hSZ hkids
      rintro k ⟨F2, inr⟩ V ⟨q0, bV, lxV, lyV, j, r, Tr, I2, F3, As, hjk, hkd, hre, hDV, hSV, hP, exV, eyV, p12, p88, p89, p90⟩
      simp only at q0 hP p12 p88 p89 p90
      subst q0
      rw [exZ] at exV
      rw [eyZ] at eyV
      obtain ⟨p1, p2, p3, p4, p5, p6, p10, p11⟩ := hP
      have sV := C.same bV
      refine wsr ?_
      simp only [↓stU, stD, reduceEqDiff, ↓reduceIte, ↓stV, stW, Nat.reduceAdd, p89, p90]
      by_cases hj : j < (nodeAt g i).next.length
      rotate_left
      · refine wpc_seq (wpc_non (by simp only [↓stU, stD, reduceEqDiff, ↓reduceIte, ↓stV, stW, Nat.reduceAdd, decide_eq_false (show ¬ (j : Int) < (((nodeAt g i).next.length : Nat) : Int) by omega)]) (wpc_exit ?_))
        simp only [↓stU, stD, reduceEqDiff, ↓reduceIte, ↓stV, stW, Nat.reduceAdd]
        have hk0 : k = 0 := by omega
        subst hk0
        exact .inl ⟨rfl, bV, lxV, lyV, j, r, Tr, I2, F3, As, hjk, hkd, hre, hDV, hSV, (by simp only [↓stU, stD, reduceEqDiff, ↓reduceIte, ↓stV, stW, Nat.reduceAdd, WkT, p1, p2, p3, p4, p5, p6, p10, p11]), by rw [exV, exZ], by rw [eyV, eyZ], (by simp only [↓stU, stD, reduceEqDiff, ↓reduceIte, ↓stV, stW, Nat.reduceAdd, p12]), (by simp only [↓stU, stD, reduceEqDiff, ↓reduceIte, ↓stV, stW, Nat.reduceAdd, p88]), (by simp only [↓stU, stD, reduceEqDiff, ↓reduceIte, ↓stV, stW, Nat.reduceAdd, p89]), (by simp only [↓stU, stD, reduceEqDiff, ↓reduceIte, ↓stV, stW, Nat.reduceAdd, p90])⟩
      refine wpc_seq (wpc_yes (by simp only [↓stU, stD, reduceEqDiff, ↓reduceIte, ↓stV, stW, Nat.reduceAdd, decide_eq_true (show (j : Int) < (((nodeAt g i).next.length : Nat) : Int) by omega)]) (wpc_skip ?_))
      try simp only [↓stU, stD, reduceEqDiff, ↓reduceIte, ↓stV, stW, Nat.reduceAdd]
      have hxaV := hxa.same sV
      have hmV := hm.same sV
      have hpvV := hpv.same sV
      have hxwV := hxw.same sV
      have hywV := hyw.same sV
      have hBV := hB.same sV
      have hiac := hxaV.iaddr hj
      have hlac := hxaV.ld hj
      have hdr : (nodeAt g i).next.drop j = (nodeAt g i).next[j] :: (nodeAt g i).next.drop (j + 1) := List.drop_eq_getElem_cons hj
      have hgd : (nodeAt g i).next.getD j 0 = (nodeAt g i).next[j] := by rw [List.getD_eq_getElem?_getD, List.getElem?_eq_getElem hj]; rfl
      rw [hdr, ← hgd] at hkd
      obtain ⟨hr1, hr2⟩ := G.kids i hlt j hj
      simp only [kidsL] at hkd
      split at hkd
      rotate_left
      · cases hkd
      rename_i hc
      obtain ⟨L1, hw1, hkd⟩ := Option.bind_eq_some_iff.1 hkd
      obtain ⟨L2, hw2, rfl⟩ := Option.map_eq_some_iff.1 hkd
      rw [List.length_append] at hre
      have hrN : r < g.nodes.length := by omega
      rw [hc] at hlac
      obtain ⟨hve, hvN⟩ := M.at hrN
      have hkp := kidP_par hW hTl M (i := i) (k := j) hlt (by rw [hc, Int.toNat_natCast]; exact hrN)
      rw [hc, Int.toNat_natCast] at hkp
      have lm0 := ldrow (p := 0) (C.m bV) rfl
      have hiam := hmV.iaddr (show r < m.length by rw [M.len]; exact hrN)
      have hlam := hmV.ld (show r < m.length by rw [M.len]; exact hrN)
      rw [hve] at hlam
      have ls0 := ldrow (p := 0) (C.s bV) rfl
      have hvp : toM m r < (T.map (·.1)).length := by rw [List.length_map, hTl]; exact hvN
      have hiap := hpvV.iaddr hvp
      have hlap := hpvV.ld hvp
      have hWV := hBV.w.1
      have w1 : IntKind.i64.wrap ((j : Int) + 1) = ((j + 1 : Nat) : Int) := by have := G.nxt i hlt; rw [wrap_i64 (by omega) (by omega)]; omega
      refine wpc_seq (wpc_block (wpc_seq (wpc_reg ?_)))
      simp only [↓stU, stD, reduceEqDiff, ↓reduceIte, ↓stV, stW, Nat.reduceAdd, p88, p90, natOf_cast, hiac, hlac]
      refine wsr ?_
      simp only [↓stU, stD, reduceEqDiff, ↓reduceIte, ↓stV, stW, Nat.reduceAdd, p5, lm0, natOf_cast, hiam, hlam]
      refine wss ?_
      simp only [↓stU, stD, reduceEqDiff, ↓reduceIte, ↓stV, stW, Nat.reduceAdd, p1, p2, ls0, evQ_nilchk, nilchk_ptr, evQ_faddr, faddr_ptr, ld6_3 hWV, natOf_cast, hiap, hlap]
      by_cases hpar : (T.map (·.1)).getD (toM m r) 0 = ((toM m i : Nat) : Int)
      rotate_left
      · refine wpc_yes (by simp only [↓stU, stD, reduceEqDiff, ↓reduceIte, ↓stV, stW, Nat.reduceAdd, decide_eq_true (show (T.map (·.1)).getD (toM m r) 0 ≠ ((toM m i : Nat) : Int) from hpar)]) ?_
        refine wsr ?_
        simp only [↓stU, stD, reduceEqDiff, ↓reduceIte, ↓stV, stW, Nat.reduceAdd]
        refine wpc_ret ?_
        refine .inr ⟨rfl, bV, no_kid hlt hj (hkp.2 hpar), ?_⟩
        simp only [↓stU, stD, reduceEqDiff, ↓reduceIte, ↓stV, stW, Nat.reduceAdd]
      refine wpc_non (by simp only [↓stU, stD, reduceEqDiff, ↓reduceIte, ↓stV, stW, Nat.reduceAdd, decide_eq_false (show ¬ (T.map (·.1)).getD (toM m r) 0 ≠ ((toM m i : Nat) : Int) from fun h => h hpar)]) (wpc_skip ?_)
      try simp only [↓stU, stD, reduceEqDiff, ↓reduceIte, ↓stV, stW, Nat.reduceAdd]
      obtain ⟨hz0, hzp⟩ := hkp.1 hpar
      clear hkp hpar hiap hlap hvp hiac hlac hiam hlam
      refine wpc_seq (wpc_mono (Q := fun o A' W => (o = .normal ∧ A'.inr = false ∧ W = ⟨V.h, V.nx + 22⟩ ∧ KdT L A'.F (X.nx + 16) (X.nx + 17) (toM m i) j r (toM m r) (nodeAt g i).next.length xa (decide ((nodeAt g i).kind = 2)) ∧ Weigh g m i j) ∨ (o = .ret ∧ WkF L X g m A' W)) (wpc_seq (wpc_drq ?_)) ?_)
      · by_cases k1 : (nodeAt g i).kind = 1
        · have k2 : (nodeAt g (toM m i)).kind = 1 := by rw [← hL.1]; exact k1
          have hzl := kidP_lt hz0
          have hnz := natOf_nn (k := .i64) hz0
          have l1 : j < (nodeAt g i).weights.length := by rw [G.wts i hlt k1]; exact hj
          have l2 : (kidP g m i j).toNat < (nodeAt g (toM m i)).weights.length := by rw [G.wts _ htoN k2]; exact hzl
          have i1 := hxwV.iaddr l1
          have i2 := hxwV.ld l1
          have i3 := hywV.iaddr l2
          have i4 := hywV.ld l2
          have i5 := row_ia (b := plb) (o := false) hvN
          have i6 := ld64 hBV.gp (show toM m r < (placeL g).length by rw [hBV.lp]; exact hvN)
          rw [← hzp] at i6
          have sxw := IsSl.self hxw
          have syw := IsSl.self hyw
          by_cases c2 : (nodeAt g i).weights.getD j 0 = (nodeAt g (toM m i)).weights.getD (kidP g m i j).toNat 0
          · simp only [↓stU, stD, reduceEqDiff, ↓reduceIte, ↓stV, stW, Nat.reduceAdd, p2, p10, p11, evQ_nilchk, isLoad_nilchk, nilchk_ptr, evQ_faddr, isLoad_faddr, faddr_ptr, ld6_0 exV, ld6_4 exV, ld6_4 eyV, ld6_4 hWV, ls0, decide_eq_true k1, sxw, syw, natOf_cast, hnz, i1, i2, i3, i4, i5, i6, decide_eq_false (show ¬ (nodeAt g i).weights.getD j 0 ≠ (nodeAt g (toM m i)).weights.getD (kidP g m i j).toNat 0 from fun h => h c2)]
            refine wpc_non (by simp only [↓stU, stD, reduceEqDiff, ↓reduceIte, ↓stV, stW, Nat.reduceAdd]) (wpc_skip ?_)
            refine .inl ⟨rfl, rfl, rfl, ?_, fun _ => c2⟩
            simp only [↓stU, stD, reduceEqDiff, ↓reduceIte, ↓stV, stW, Nat.reduceAdd, KdT, WkT, p1, p2, p3, p4, p5, p6, p10, p11, p12, p88, p89, p90, and_self]
          · simp only [↓stU, stD, reduceEqDiff, ↓reduceIte, ↓stV, stW, Nat.reduceAdd, p2, p10, p11, evQ_nilchk, isLoad_nilchk, nilchk_ptr, evQ_faddr, isLoad_faddr, faddr_ptr, ld6_0 exV, ld6_4 exV, ld6_4 eyV, ld6_4 hWV, ls0, decide_eq_true k1, sxw, syw, natOf_cast, hnz, i1, i2, i3, i4, i5, i6, decide_eq_true (show (nodeAt g i).weights.getD j 0 ≠ (nodeAt g (toM m i)).weights.getD (kidP g m i j).toNat 0 from c2)]
            refine wpc_yes (by simp only [↓stU, stD, reduceEqDiff, ↓reduceIte, ↓stV, stW, Nat.reduceAdd]) ?_
            refine wsr ?_
            simp only [↓stU, stD, reduceEqDiff, ↓reduceIte, ↓stV, stW, Nat.reduceAdd]
            refine wpc_ret ?_
            refine .inr ⟨rfl, bV.trans (Same.butW (Same.nx _ _)), no_weigh hlt hj (fun h => c2 (h k1)), ?_⟩
            simp only [↓stU, stD, reduceEqDiff, ↓reduceIte, ↓stV, stW, Nat.reduceAdd]
        · simp only [↓stU, stD, reduceEqDiff, ↓reduceIte, ↓stV, stW, Nat.reduceAdd, p10, evQ_faddr, isLoad_faddr, faddr_ptr, ld6_0 exV, decide_eq_false k1]
          refine wpc_non (by simp only [↓stU, stD, reduceEqDiff, ↓reduceIte, ↓stV, stW, Nat.reduceAdd]) (wpc_skip ?_)
          refine .inl ⟨rfl, rfl, rfl, ?_, fun h => absurd h k1⟩
          simp only [↓stU, stD, reduceEqDiff, ↓reduceIte, ↓stV, stW, Nat.reduceAdd, KdT, WkT, p1, p2, p3, p4, p5, p6, p10, p11, p12, p88, p89, p90, and_self]
      clear p1 p2 p3 p4 p5 p6 p10 p11 p12 p88 p89 p90
      rintro o ⟨F2, inr⟩ W (⟨rfl, q0, rfl, hP, hwe⟩ | ⟨rfl, hf⟩)
      rotate_left
      · simp only [↓stU, stD, reduceEqDiff, ↓reduceIte, ↓stV, stW, Nat.reduceAdd]
        exact .inr hf
      simp only at q0 hP
      subst q0
      obtain ⟨⟨p1, p2, p3, p4, p5, p6, p10, p11⟩, p12, p13, p14, p15, p88, p89, p90⟩ := hP
      have sW := Same.nx V 22
      have bW := bV.trans (Same.butW sW)
      have hDW : Dyn L S0 ⟨V.h, V.nx + 22⟩ I2 F3 As := hDV.same C bV.1 sW
      try simp only [↓stU, stD, reduceEqDiff, ↓reduceIte, ↓stV, stW, Nat.reduceAdd]
      refine wpc_seq (wpc_mono (Q := fun o A' U => (o = .normal ∧ A'.inr = false ∧ ButW (L.W g.infos.length) X U ∧ ButW (L.W g.infos.length) V U ∧ KdT L A'.F (X.nx + 16) (X.nx + 17) (toM m i) j r (toM m r) (nodeAt g i).next.length xa (decide ((nodeAt g i).kind = 2)) ∧ ∃ As', Dyn L S0 U I2 F3 As' ∧ SeenP g m r (r + 1) I2 F3 As') ∨ (o = .ret ∧ WkF L X g m A' U)) (wpc_seq (wpc_mono (Q := fun o A' U => o = .normal ∧ A'.inr = false ∧ ButW (L.W g.infos.length) X U ∧ ButW (L.W g.infos.length) V U ∧ KdT L A'.F (X.nx + 16) (X.nx + 17) (toM m i) j r (toM m r) (nodeAt g i).next.length xa (decide ((nodeAt g i).kind = 2)) ∧ ∃ t, tmpV 148 A'.F = .bool t ∧ (t = true → ¬ Auto g m) ∧ (t = false → ∃ As', Dyn L S0 U I2 F3 As' ∧ SeenP g m r (r + 1) I2 F3 As')) ?_ ?_)) ?_)
      · by_cases hk : (nodeAt g i).kind = 2
        rotate_left
        · refine wpc_drd (fun _ => False) ?_
          simp only [↓stU, stD, reduceEqDiff, ↓reduceIte, ↓stV, stW, Nat.reduceAdd, p12, decide_eq_false hk]
          refine ⟨bW.trans (Same.butW (Same.nx _ _)), (Same.butW sW).trans (Same.butW (Same.nx _ _)), ?_, false, rfl, fun h => (by cases h), fun _ => ⟨As, ?_, hSV.kid G hlt hj hc hz0 hwe hk⟩⟩
          · simp only [↓stU, stD, reduceEqDiff, ↓reduceIte, ↓stV, stW, Nat.reduceAdd, KdT, WkT, p1, p2, p3, p4, p5, p6, p10, p11, p12, p13, p14, p15, p88, p89, p90, decide_eq_false hk, and_self]
          · exact hDW.same C bW.1 (Same.nx _ _)
        obtain ⟨a1, a2, a3⟩ := G.inf i hlt hk
        have hni := natOf_nn (k := .i64) a1
        have hs : (nodeAt g i).info.toNat < g.infos.length := by omega
        have hsA : (nodeAt g i).info.toNat < As.length := by rw [hSV.s.la]; exact hs
        have hls := hSV.s.ls _ hs
        rw [show (((nodeAt g i).info.toNat : Nat) : Int) = (nodeAt g i).info by omega, a3] at hls
        have hkA : j < (As.getD (nodeAt g i).info.toNat []).length := by omega
        have lo1 := ldc (j := 1) (C.o bV) rfl
        have hia := row_ia (b := L.ab) (o := false) hs
        have hld := ldrow (C.a bV) (hDV.rw.cl _ hsA)
        have srow : sameV (rowV (L.bs (nodeAt g i).info.toNat) (As.getD (nodeAt g i).info.toNat [])) (rowV (L.bs (nodeAt g i).info.toNat) (As.getD (nodeAt g i).info.toNat [])) = true := same_sl ..
        have i5 := row_ia (b := plb) (o := false) hvN
        have i6 := ld64 hBV.gp (show toM m r < (placeL g).length by rw [hBV.lp]; exact hvN)
        rw [← hzp] at i6
        refine wpc_drc (pre := agC) (K := 16) rfl rfl rfl rfl (by decide) rfl rfl ?_
        unfold agC
        simp only [↓stU, stD, reduceEqDiff, ↓reduceIte, ↓stV, stW, Nat.reduceAdd, p2, p3, p10, p12, p13, p15, decide_eq_true hk, evQ_nilchk, isLoad_nilchk, nilchk_ptr, evQ_faddr, isLoad_faddr, faddr_ptr, lo1, ld6_2 exV, hni, hia, hld, srow, ls0, ld6_4 hWV, natOf_cast, i5, i6]
        have hag := agree_spec (S := ⟨V.h, V.nx + 22 + 19⟩) (v := kidP g m i j) (x := (j : Int)) H (hDV.rw.bl _ hsA).2.2 (by omega) (by rw [Int.toNat_natCast]; exact hkA)
        rw [Int.toNat_natCast] at hag
        refine wpf_mono hag ?_
        rintro _ U ⟨hU, t, rfl, ht1, ht0⟩
        have wbs : L.W g.infos.length (L.bs (nodeAt g i).info.toNat) := .inr (.inr ⟨_, hs, rfl⟩)
        have bVU : ButW (L.W g.infos.length) V U := (Same.butW (Same.nx V (22 + 19))).trans (hU.butW wbs)
        have bU := bV.trans bVU
        refine ⟨.bool (!t), .bool (!t), ?_, ?_, bU, bVU, ?_, !t, ?_, ?_, ?_⟩
        · simp only [↓stU, stD, reduceEqDiff, ↓reduceIte, ↓stV, stW, Nat.reduceAdd, un_not]
        · simp only [↓stU, stD, reduceEqDiff, ↓reduceIte, ↓stV, stW, Nat.reduceAdd]
        · simp only [↓stU, stD, reduceEqDiff, ↓reduceIte, ↓stV, stW, Nat.reduceAdd, KdT, WkT, p1, p2, p3, p4, p5, p6, p10, p11, p12, p13, p14, p15, p88, p89, p90, decide_eq_true hk, and_self]
        · simp only [↓stU, stD, reduceEqDiff, ↓reduceIte, ↓stV, stW, Nat.reduceAdd]
        · intro h
          cases t with
          | true => cases h
          | false => exact hSV.no_act G hlt hk hj (ht0 rfl).1 (ht0 rfl).2
        · intro h
          cases t with
          | false => cases h
          | true =>
          obtain ⟨gU, hA⟩ := ht1 rfl
          have lrow := hDV.rw.bl _ hsA
          have wib : L.W g.infos.length L.ib := .inl rfl
          have wrb : L.W g.infos.length L.rb := .inr (.inl rfl)
          have lrb : L.rb < V.nx := Nat.lt_of_lt_of_le (C.w0 _ wrb).2 bV.1
          have lib : L.ib < V.nx := Nat.lt_of_lt_of_le (C.w0 _ wib).2 bV.1
          have hU2 : ∀ c, c < V.nx → c ≠ L.bs (nodeAt g i).info.toNat → U.h.get c = V.h.get c := fun c hc hne => hU.2 c (by show c < V.nx + 22 + 19; omega) hne
          refine ⟨_, ⟨(hU2 _ lib (C.is _ hs).1).trans hDV.gi, (hU2 _ lrb (C.is _ hs).2).trans hDV.gr, ?_⟩, hSV.kidM G hlt hj hc hz0 hwe hk hA⟩
          refine (hDV.rw.put hsA (Nat.le_refl _)).move (show V.nx ≤ U.nx from bVU.1) fun q hq => ?_
          rw [List.length_set] at hq
          simp only
          rw [Ev.T.get_set]
          split
          · rename_i e; rw [e]; exact gU
          · rename_i e; exact hU2 _ (hDV.rw.bl q hq).2.1 e
      · clear p1 p2 p3 p4 p5 p6 p10 p11 p12 p13 p14 p15 p88 p89 p90
        rintro o ⟨F2, inr⟩ U ⟨rfl, q0, bU, bVU, hP, t, p148, ht1, ht0⟩
        simp only at q0 hP p148
        subst q0
        obtain ⟨⟨p1, p2, p3, p4, p5, p6, p10, p11⟩, p12, p13, p14, p15, p88, p89, p90⟩ := hP
        try simp only [↓stU, stD, reduceEqDiff, ↓reduceIte, ↓stV, stW, Nat.reduceAdd]
        cases t with
        | true =>
          refine wpc_yes (by simp only [↓stU, stD, reduceEqDiff, ↓reduceIte, ↓stV, stW, Nat.reduceAdd, p148]) ?_
          refine wsr ?_
          simp only [↓stU, stD, reduceEqDiff, ↓reduceIte, ↓stV, stW, Nat.reduceAdd]
          refine wpc_ret ?_
          refine .inr ⟨rfl, bU, ht1 rfl, ?_⟩
          simp only [↓stU, stD, reduceEqDiff, ↓reduceIte, ↓stV, stW, Nat.reduceAdd]
        | false =>
          refine wpc_non (by simp only [↓stU, stD, reduceEqDiff, ↓reduceIte, ↓stV, stW, Nat.reduceAdd, p148]) (wpc_skip ?_)
          exact .inl ⟨rfl, rfl, bU, bVU, ⟨⟨p1, p2, p3, p4, p5, p6, p10, p11⟩, p12, p13, p14, p15, p88, p89, p90⟩, ht0 rfl⟩
      clear p1 p2 p3 p4 p5 p6 p10 p11 p12 p13 p14 p15 p88 p89 p90
      rintro o ⟨F2, inr⟩ U (⟨rfl, q0, bU, bVU, hP, As', hDU, hSU⟩ | ⟨rfl, hf⟩)
      rotate_left
      · simp only [↓stU, stD, reduceEqDiff, ↓reduceIte, ↓stV, stW, Nat.reduceAdd]
        exact .inr hf
      simp only at q0 hP
      subst q0
      obtain ⟨⟨p1, p2, p3, p4, p5, p6, p10, p11⟩, p12, p13, p14, p15, p88, p89, p90⟩ := hP
      have exU := (bVU.2 _ lxV (nWx (by omega))).trans exV
      have eyU := (bVU.2 _ lyV (nWx (by omega))).trans eyV
      have lxU : X.nx + 16 < U.nx := Nat.lt_of_lt_of_le lxV bVU.1
      have lyU : X.nx + 17 < U.nx := Nat.lt_of_lt_of_le lyV bVU.1
      have lk0 := ldrow (p := 0) (C.k bU) rfl
      try simp only [↓stU, stD, reduceEqDiff, ↓reduceIte, ↓stV, stW, Nat.reduceAdd]
      refine wpc_mono (Q := fun o A' R => (o = .normal ∧ A'.inr = false ∧ ButW (L.W g.infos.length) X R ∧ ButW (L.W g.infos.length) U R ∧ KdT L A'.F (X.nx + 16) (X.nx + 17) (toM m i) j r (toM m r) (nodeAt g i).next.length xa (decide ((nodeAt g i).kind = 2)) ∧ ∃ I'' F'' A'', Dyn L S0 R I'' F'' A'' ∧ SeenP g m (r + L1.length) (r + L1.length) I'' F'' A'') ∨ (o = .ret ∧ WkF L X g m A' R)) (wpc_seq (wpc_reg ?_)) ?_
      · simp only [↓stU, stD, reduceEqDiff, ↓reduceIte, ↓stV, stW, Nat.reduceAdd, p6, p14, p15, lk0]
        refine wpo_call ?_
        simp only [↓stU, stD, reduceEqDiff, ↓reduceIte, ↓stV, stW, Nat.reduceAdd]
        refine wpf_mono (ih hw1 (C.move bU) hDU hSU) ?_
        rintro _ R ⟨bUR, t, rfl, ht0, ht1⟩
        simp only [↓stU, stD, reduceEqDiff, ↓reduceIte, ↓stV, stW, Nat.reduceAdd, un_not]
        cases t with
        | false =>
          refine wpc_yes (by simp only [↓stU, stD, reduceEqDiff, ↓reduceIte, ↓stV, stW, Nat.reduceAdd, Bool.not_false]) ?_
          refine wsr ?_
          simp only [↓stU, stD, reduceEqDiff, ↓reduceIte, ↓stV, stW, Nat.reduceAdd]
          refine wpc_ret ?_
          refine .inr ⟨rfl, bU.trans bUR, ht0 rfl, ?_⟩
          simp only [↓stU, stD, reduceEqDiff, ↓reduceIte, ↓stV, stW, Nat.reduceAdd]
        | true =>
          refine wpc_non (by simp only [↓stU, stD, reduceEqDiff, ↓reduceIte, ↓stV, stW, Nat.reduceAdd, Bool.not_true]) (wpc_skip ?_)
          refine .inl ⟨rfl, rfl, bU.trans bUR, bUR, ?_, ht1 rfl⟩
          simp only [↓stU, stD, reduceEqDiff, ↓reduceIte, ↓stV, stW, Nat.reduceAdd, KdT, WkT, p1, p2, p3, p4, p5, p6, p10, p11, p12, p13, p14, p15, p88, p89, p90, and_self]
      clear p1 p2 p3 p4 p5 p6 p10 p11 p12 p13 p14 p15 p88 p89 p90
      rintro o ⟨F2, inr⟩ R (⟨rfl, q0, bR, bUR, hP, I4, F4, A4, hDR, hSR⟩ | ⟨rfl, hf⟩)
      rotate_left
      · simp only [↓stU, stD, reduceEqDiff, ↓reduceIte, ↓stV, stW, Nat.reduceAdd]
        exact .inr hf
      simp only at q0 hP
      subst q0
      obtain ⟨⟨p1, p2, p3, p4, p5, p6, p10, p11⟩, p12, p13, p14, p15, p88, p89, p90⟩ := hP
      try simp only [↓stU, stD, reduceEqDiff, ↓reduceIte, ↓stV, stW, Nat.reduceAdd]
      refine wpc_reg ?_
      simp only [↓stU, stD, reduceEqDiff, ↓reduceIte, ↓stV, stW, Nat.reduceAdd, p90, w1]
      refine ⟨k - 1, by omega, rfl, bR, Nat.lt_of_lt_of_le lxU bUR.1, Nat.lt_of_lt_of_le lyU bUR.1, j + 1, r + L1.length, L2, I4, F4, A4, by omega, hw2, by omega, hDR, hSR, ?_, ?_, ?_, ?_, ?_, ?_, ?_⟩
      · simp only [↓stU, stD, reduceEqDiff, ↓reduceIte, ↓stV, stW, Nat.reduceAdd, WkT, p1, p2, p3, p4, p5, p6, p10, p11, and_self]
      · rw [bUR.2 _ lxU (nWx (by omega)), exU, exZ]
      · rw [bUR.2 _ lyU (nWx (by omega)), eyU, eyZ]
      · simp only [↓stU, stD, reduceEqDiff, ↓reduceIte, ↓stV, stW, Nat.reduceAdd, p12]
      · simp only [↓stU, stD, reduceEqDiff, ↓reduceIte, ↓stV, stW, Nat.reduceAdd, p88]
      · simp only [↓stU, stD, reduceEqDiff, ↓reduceIte, ↓stV, stW, Nat.reduceAdd, p89]
      · simp only [↓stU, stD, reduceEqDiff, ↓reduceIte, ↓stV, stW, Nat.reduceAdd]
    clear p1 p2 p3 p4 p5 p6 p10 p11 p12
    rintro o ⟨F2, inr⟩ V (⟨rfl, q0, bV, lxV, lyV, j, r, Tr, I2, F3, As, hjk, hkd, hre, hDV, hSV, hP, exV, eyV, p12, p88, p89, p90⟩ | ⟨rfl, hf⟩)
    rotate_left
    · obtain ⟨h1, h2, h3⟩ := hf
      simp only [↓stU, stD, reduceEqDiff, ↓reduceIte, ↓stV, stW, Nat.reduceAdd, h3]
      exact ⟨h1, false, rfl, fun _ => h2, fun h => by cases h⟩
    simp only at q0
    subst q0
    rw [List.drop_of_length_le (by omega)] at hkd
    simp only [kidsL, Option.some.injEq] at hkd
    subst hkd
    rw [List.length_nil, Nat.add_zero] at hre
    subst hre
    try simp only [↓stU, stD, reduceEqDiff, ↓reduceIte, ↓stV, stW, Nat.reduceAdd]
    refine wsr ?_
    simp only [↓stU, stD, reduceEqDiff, ↓reduceIte, ↓stV, stW, Nat.reduceAdd]
    refine wpc_ret ?_
    simp only [↓stU, stD, reduceEqDiff, ↓reduceIte, ↓stV, stW, Nat.reduceAdd]
    exact ⟨bV, true, rfl, fun h => (by cases h), fun _ => ⟨I2, F3, As, hDV, hSV⟩⟩
end Go.Ev.Gl

namespace Go.Ev.Gl
variable {fns : T AFn}

/-! ## The program's image -/
theorem ev_build2 {F : Fr} {h : Ev.T AB} {s t : Nat} {x y : AV} (h1 : tmpV s F = x) (h2 : tmpV t F = y) (hx : x.cells = some [x]) (hy : y.cells = some [y]) : evQ (.build [.nilsl, .nilsl] [(0, 1, .t s), (1, 1, .t t)]) F h = some (.agg [x, y]) := by
  show (osel (fillP _ (partsV F [(0, 1, .t s), (1, 1, .t t)])) fun cs => some (AV.agg cs)) = _
  simp only [partsV, show (Opd.t s).val F = x from h1, show (Opd.t t).val F = y from h2, fillP, hx, hy, osel_some]
  rfl
theorem ev_build0 {F : Fr} {h : Ev.T AB} : evQ (.build [.nilsl, .nilsl] []) F h = some (.agg [.nilsl, .nilsl]) := rfl
/-- two blocks that are laid, the later one filled, at the end of a region -/
theorem one_st {W : Nat → Prop} {h0 : Ev.T AB} {base : Nat} {F : Fr} {S : St} {Q : Fr → St → List Pend → Prop} {i a b n m1 j1 j2 l : Nat} {za zb cy : List AV} {t2 u2 : Opd} (ht1 : Nat.testBit m1 j1 = true) (ht2 : Nat.testBit m1 j2 = true) (hm2 : inMask (some l) m1 = true)
    (h2 : t2.val F = .ptr b 0) (hu2 : (u2.val F).cells = some cy) (lz : zb.length = n) (ly : cy.length = n) (hab : a ≠ b) (hba : base ≤ a) (hbb : base ≤ b)
    (hr : ∀ S', S'.nx = S.nx → S'.h.get a = some (.cells za false 0) → S'.h.get b = some (.cells cy false 0) → (∀ c, c ≠ a → c ≠ b → S'.h.get c = S.h.get c) → Q F S' []) :
    runD fns W h0 base [⟨none, .x (.st n t2 u2), none, m1⟩] i F S [⟨j2, b, .cells zb false 0⟩, ⟨j1, a, .cells za false 0⟩] (some l) Q := by
  have hf : flush m1 [⟨j2, b, .cells zb false 0⟩, ⟨j1, a, .cells za false 0⟩] S.h = ([], (S.h.set b (some (.cells zb false 0))).set a (some (.cells za false 0))) := by rw [flush_on ht2, flush_on ht1, flush_nil]
  have hg2 : ((S.h.set b (some (.cells zb false 0))).set a (some (.cells za false 0))).get b = some (.cells zb false 0) := by rw [T.get_set, if_neg (Ne.symm hab), T.get_set, if_pos rfl]
  have x2 := xst_all (S := ⟨(S.h.set b (some (.cells zb false 0))).set a (some (.cells za false 0)), S.nx⟩) (cs' := cy) (n := n) hg2 lz ly
  refine runD_st (S1 := ⟨((S.h.set b (some (.cells zb false 0))).set a (some (.cells za false 0))).set b (some (.cells cy false 0)), S.nx⟩) hm2 ?_ ?_ ?_
  · rw [hf, h2, hu2, osel_some]; exact x2
  · rw [hf]; exact ⟨Nat.le_refl _, fun c hc _ => by simp only; rw [T.get_set, if_neg (by omega), T.get_set, if_neg (by omega), T.get_set, if_neg (by omega)]⟩
  rw [hf]
  refine hr _ rfl ?_ ?_ fun c hc1 hc2 => ?_
  · simp only; rw [T.get_set, if_neg hab, T.get_set, if_pos rfl]
  · simp only; rw [T.get_set, if_pos rfl]
  · simp only; rw [T.get_set, if_neg hc2, T.get_set, if_neg hc1, T.get_set, if_neg hc2]
def FilA (X3 : St) (sb mb tb ob fb ab ib rb : Nat) (iv : AV) (g : PGame) (k : Nat) (A : Act') (X : St) : Prop := A.inr = false ∧ SameBut ab X3 X ∧ ∃ i bs cs, i + k = g.infos.length ∧ cs.length = g.infos.length ∧ X.h.get ab = some (.cells cs false 0) ∧ Rws X3 X bs cs ((unkA g).take i) ∧ tmpV 2 A.F = .ptr sb 0 ∧ tmpV 3 A.F = .ptr mb 0 ∧ tmpV 4 A.F = .ptr tb 0 ∧ tmpV 6 A.F = .ptr ob 0 ∧ tmpV 7 A.F = .ptr fb 0 ∧ tmpV 37 A.F = iv ∧ tmpV 38 A.F = .int .i64 ((g.infos.length : Nat) : Int) ∧ tmpV 39 A.F = .int .i64 (i : Int)
def ImgP (g : PGame) (m : List Int) (S S' : St) (x y : AV) : Prop := Own64 S S' x (imgI g m) ∧ ∃ ab bs cs, y = .sl ab 0 (imgA g m).length (imgA g m).length false ∧ S.nx ≤ ab ∧ ab < S'.nx ∧ S'.h.get ab = some (.cells cs false 0) ∧ Rws S S' bs cs (imgA g m)

set_option maxHeartbeats 4000000 in
theorem image_spec {S : St} {wb plb szb : Nat} {nv iv pv mv : AV} {g : PGame} {m : List Int} {T : List Trip} {Z : List Int} (H : Has fns) (hn : IsSlG 6 NodeE S nv g.nodes) (hi : IsSlG 2 InfoE S iv g.infos) (hm : IsSl .i64 S mv m) (G : GoodG g) (M : MapG g m) (hT : walkG g = some T) (hTl : T.length = g.nodes.length) (hpv : IsSl .i64 S pv (T.map (·.1))) (hB : SceneB S wb plb szb pv nv iv g (placeL g) Z) :
    wpf fns (.fn 116 [] []) [.ptr wb 0, mv] S fun r S' => Same S S' ∧ ∃ x y t, r = .tup [.agg [x, y], .bool t] ∧ (t = true ↔ Auto g m) ∧ (t = true → ImgP g m S S' x y) := by
  have hml : 0 < m.length := by rw [M.len]; exact G.n1
  have hN := G.n2
  have hNI := G.ni
  have hWF : WF (nextOf g) 0 (-1) T := by unfold walkG at hT; exact walk_facts hT
  refine wpf_fn H.f116 (by simp) ?_
  simp only [↓stU, stD, reduceEqDiff, ↓reduceIte, ↓stV, stW, Nat.reduceAdd]
  refine wsr ?_
  refine wpo_box (cs := [.ptr wb 0]) rfl ?_
  intro S1 s1 n1 g1
  refine wpo_box (cs := [mv]) ?_ ?_
  · exact IsSl.cells hm
  intro S2 s2 n2 g2
  refine wpo_alloc ?_
  intro S3 s3 n3 g3
  simp only [↓stU, stD, reduceEqDiff, ↓reduceIte, ↓stV, stW, Nat.reduceAdd]
  have s13 := s2.trans s3
  have sS3 := s1.trans s13
  have gsb : S3.h.get S.nx = some (.cells [.ptr wb 0] false 0) := by rw [s13.2 _ (by omega)]; exact g1
  have gmb : S3.h.get S1.nx = some (.cells [mv] false 0) := by rw [s3.2 _ (by omega)]; exact g2
  have gtb : S3.h.get S2.nx = some (.cells [.nilsl, .nilsl] false 0) := g3
  have e1 : S1.nx = S.nx + 1 := n1
  have e2 : S2.nx = S.nx + 2 := by omega
  have e3 : S3.nx = S.nx + 3 := by omega
  rw [e1] at gmb
  rw [e2] at gtb
  simp only [e1, e2]
  clear g1 g2 g3 s1 s2 s3 s13 n1 n2 n3 e1 e2 S1 S2
  have hB3 := hB.same sS3
  have hW3 := hB3.w.1
  have lw3 := hB3.w.2
  have ls0 := ldrow (p := 0) gsb rfl
  have lsb : S.nx < S3.nx := by omega
  have siv := IsSlG.self hi
  -- the first rows
  refine wpc_seq (wpc_drd2 (fun _ => False) ?_)
  intro X1 x1 hx1 hm1
  simp only [↓stU, stD, reduceEqDiff, ↓reduceIte, ↓stV, stW, Nat.reduceAdd, ls0, lsb, not_false_eq_true, evQ_nilchk, isLoad_nilchk, nilchk_ptr, evQ_faddr, isLoad_faddr, faddr_ptr, ld6_2 hW3, lw3, siv, hi.len]
  refine runD_call0 rfl ?_
  simp only [↓stU, stD, reduceEqDiff, ↓reduceIte, ↓stV, stW, Nat.reduceAdd]
  refine wpf_mono (unknown_spec H (n := g.infos.length) (by omega)) ?_
  rintro r X2 ⟨⟨ib, rfl, b1, b2, b3⟩, x2⟩
  rw [List.length_replicate]
  refine ⟨x2, ?_⟩
  simp only [↓stU, stD, reduceEqDiff, ↓reduceIte, ↓stV, stW, Nat.reduceAdd, ls0, lsb, not_false_eq_true, evQ_nilchk, isLoad_nilchk, nilchk_ptr, evQ_faddr, isLoad_faddr, faddr_ptr, ld6_2 hW3, lw3, siv, hi.len]
  refine contA_mk (n := g.infos.length) (by simp only [↓stU, stD, reduceEqDiff, ↓reduceIte, ↓stV, stW, Nat.reduceAdd, natOf_cast]) (by simp only [↓stU, stD, reduceEqDiff, ↓reduceIte, ↓stV, stW, Nat.reduceAdd, natOf_cast]) (by unfold room; omega) (by unfold room; omega) ?_
  simp only [↓stU, stD, reduceEqDiff, ↓reduceIte, ↓stV, stW, Nat.reduceAdd]
  rw [ev_build2 (x := .sl ib 0 g.infos.length g.infos.length false) (y := .sl (S3.nx + 13) 0 g.infos.length g.infos.length false) (by simp only [↓stU, stD, reduceEqDiff, ↓reduceIte, ↓stV, stW, Nat.reduceAdd]) (by simp only [↓stU, stD, reduceEqDiff, ↓reduceIte, ↓stV, stW, Nat.reduceAdd]) rfl rfl]
  simp only [↓stU, stD, reduceEqDiff, ↓reduceIte, ↓stV, stW, Nat.reduceAdd, isLoad_build, evA_alloc]
  refine one_st (n := 2) rfl rfl rfl (by simp only [↓stU, stD, reduceEqDiff, ↓reduceIte, ↓stV, stW, Nat.reduceAdd]) (by simp only [↓stU, stD, reduceEqDiff, ↓reduceIte, ↓stV, stW, Nat.reduceAdd]; exact cells_agg _) rfl rfl (by omega) (by omega) (by omega) ?_
  intro X3 hX3n ga0 go0 hX3
  rw [flush_nil, repeatL_one] at *
  have bX1 : X1.nx = S3.nx + 17 := hm1
  have lX2 := x2.1
  have eX3 : X3.nx = X2.nx := hX3n
  have sX3 : Same S3 X3 := ⟨by omega, fun c hc => by rw [hX3 c (by omega) (by omega), x2.2 _ (by omega), hx1]⟩
  have gi0 : X3.h.get ib = some (.cells (cells64 (List.replicate g.infos.length (-1))) false 0) := by rw [hX3 _ (by omega) (by omega)]; exact b3
  show wpc fns _ _ X3 _
  have gsb3 := (sX3.2 _ lsb).trans gsb
  have ls3 := ldrow (p := 0) gsb3 rfl
  have hW4 := (hB3.same sX3).w.1
  refine wsr ?_
  simp only [↓stU, stD, reduceEqDiff, ↓reduceIte, Nat.reduceAdd, ls3, evQ_nilchk, nilchk_ptr, evQ_faddr, faddr_ptr, ld6_2 hW4, hi.len]
  refine wpo_call ?_
  simp only [↓stU, stD, reduceEqDiff, ↓reduceIte, Nat.reduceAdd]
  refine wpf_mono (unknown_spec H (n := g.infos.length) (by omega)) ?_
  rintro r X4 ⟨⟨rb, rfl, d1, d2, d3⟩, x4⟩
  rw [List.length_replicate]
  try simp only [↓stU, stD, reduceEqDiff, ↓reduceIte, Nat.reduceAdd]
  refine wpo_alloc ?_
  intro X5 x5 m5 g5
  refine wpo_st (b := X4.nx) (cs' := [.sl rb 0 g.infos.length g.infos.length false]) (by simp only [↓stU, stD, reduceEqDiff, ↓reduceIte, Nat.reduceAdd]) (by simp only [↓stU, stD, reduceEqDiff, ↓reduceIte, Nat.reduceAdd]; rfl) g5 rfl rfl ?_
  intro X6 x6 m6 g6
  simp only [↓stU, stD, reduceEqDiff, ↓reduceIte, Nat.reduceAdd]
  have lX4 := x4.1
  have x36 : Same X3 X6 := x4.trans (x6.same x5 (Nat.le_refl _))
  have sX6 := sX3.trans x36
  have gi6 := (x36.2 _ (by omega)).trans gi0
  have ga6 := (x36.2 _ (by omega)).trans ga0
  have go6 := (x36.2 _ (by omega)).trans go0
  have gr6 : X6.h.get rb = some (.cells (cells64 (List.replicate g.infos.length (-1))) false 0) := by rw [x6.2 _ (by omega) (by omega), x5.2 _ (by omega)]; exact d3
  have gsb6 := (sX6.2 _ lsb).trans gsb
  have ls6 := ldrow (p := 0) gsb6 rfl
  have hW6 := (hB3.same sX6).w.1
  have eX6 : X6.nx = X4.nx + 1 := by omega
  have hli := hi.len
  refine wpc_seq (wpc_mono (Q := fun o A' X => o = .normal ∧ FilA X6 S.nx (S.nx + 1) (S.nx + 2) (S3.nx + 15) X4.nx (S3.nx + 13) ib rb iv g 0 A' X) (wpc_seq (wpc_reg ?_)) ?_)
  · simp only [↓stU, stD, reduceEqDiff, ↓reduceIte, Nat.reduceAdd, ls6, evQ_nilchk, nilchk_ptr, evQ_faddr, faddr_ptr, ld6_2 hW6, hli]
    refine wpc_block (wpc_loop (FilA X6 S.nx (S.nx + 1) (S.nx + 2) (S3.nx + 15) X4.nx (S3.nx + 13) ib rb iv g) ?_ g.infos.length _ _ ⟨rfl, SameBut.refl _ _, 0, fun _ => 0, _, by omega, List.length_replicate .., ga6, Rws.none, by simp only [↓stU, stD, reduceEqDiff, ↓reduceIte, Nat.reduceAdd], by simp only [↓stU, stD, reduceEqDiff, ↓reduceIte, Nat.reduceAdd], by simp only [↓stU, stD, reduceEqDiff, ↓reduceIte, Nat.reduceAdd], by simp only [↓stU, stD, reduceEqDiff, ↓reduceIte, Nat.reduceAdd], by simp only [↓stU, stD, reduceEqDiff, ↓reduceIte, Nat.reduceAdd], by simp only [↓stU, stD, reduceEqDiff, ↓reduceIte, Nat.reduceAdd], by simp only [↓stU, stD, reduceEqDiff, ↓reduceIte, Nat.reduceAdd], by simp only [↓stU, stD, reduceEqDiff, ↓reduceIte, Nat.reduceAdd]⟩)
    rintro k ⟨F, inr⟩ X ⟨q0, hX, i, bs, cs, hik, hcl, hga, hR, p2, p3, p4, p6, p7, p37, p38, p39⟩
    simp only at q0 p2 p3 p4 p6 p7 p37 p38 p39
    subst q0
    refine wsr ?_
    simp only [↓stU, stD, reduceEqDiff, ↓reduceIte, Nat.reduceAdd, p38, p39]
    by_cases hlt : i < g.infos.length
    rotate_left
    · refine wpc_seq (wpc_non (by simp only [↓stU, stD, reduceEqDiff, ↓reduceIte, Nat.reduceAdd, decide_eq_false (show ¬ (i : Int) < ((g.infos.length : Nat) : Int) by omega)]) (wpc_exit ?_))
      simp only [↓stU, stD, reduceEqDiff, ↓reduceIte, Nat.reduceAdd]
      have hk0 : k = 0 := by omega
      subst hk0
      exact ⟨rfl, hX, i, bs, cs, hik, hcl, hga, hR, by simp only [↓stU, stD, reduceEqDiff, ↓reduceIte, Nat.reduceAdd, p2], by simp only [↓stU, stD, reduceEqDiff, ↓reduceIte, Nat.reduceAdd, p3], by simp only [↓stU, stD, reduceEqDiff, ↓reduceIte, Nat.reduceAdd, p4], by simp only [↓stU, stD, reduceEqDiff, ↓reduceIte, Nat.reduceAdd, p6], by simp only [↓stU, stD, reduceEqDiff, ↓reduceIte, Nat.reduceAdd, p7], by simp only [↓stU, stD, reduceEqDiff, ↓reduceIte, Nat.reduceAdd, p37], by simp only [↓stU, stD, reduceEqDiff, ↓reduceIte, Nat.reduceAdd, p38], by simp only [↓stU, stD, reduceEqDiff, ↓reduceIte, Nat.reduceAdd, p39]⟩
    refine wpc_seq (wpc_yes (by simp only [↓stU, stD, reduceEqDiff, ↓reduceIte, Nat.reduceAdd, decide_eq_true (show (i : Int) < ((g.infos.length : Nat) : Int) by omega)]) (wpc_skip ?_))
    try simp only [↓stU, stD, reduceEqDiff, ↓reduceIte, Nat.reduceAdd]
    have sX : Same S X := hX.same (sS3.trans sX6) (by omega)
    have lXn := hX.1
    obtain ⟨f1, f2, f3⟩ := G.fst i hlt
    have hac := (G.inf _ f1 f2).2.2
    rw [f3] at hac
    obtain ⟨e, b, q, hian, hb, he, heq, hla, _⟩ := IsSlG.at hi (by decide) (List.getElem?_eq_getElem hlt)
    have hia' : g.infos[i] = infoAt g (i : Int) := by unfold infoAt; rw [List.getD_eq_getElem?_getD, Int.toNat_natCast, List.getElem?_eq_getElem hlt]; rfl
    unfold InfoE at heq
    subst heq
    rw [hia', hac] at hla
    rw [← ldSame sX hb] at hla
    have hnl : (nodeAt g (firstOf g i)).next.length ≤ 1000 := G.nxt _ f1
    generalize hna : (nodeAt g (firstOf g i)).next.length = na at *
    have w1 : IntKind.i64.wrap ((i : Int) + 1) = ((i + 1 : Nat) : Int) := by rw [wrap_i64 (by omega) (by omega)]; omega
    have goX := (hX.2 _ (show S3.nx + 15 < X6.nx by omega) (by omega)).trans go6
    refine wpc_seq (wpc_block (wpc_seq (wpc_reg ?_)))
    simp only [↓stU, stD, reduceEqDiff, ↓reduceIte, Nat.reduceAdd, p37, p39, natOf_cast, hian, hla]
    refine wpo_alloc ?_
    intro Y1 y1 k1 h1
    simp only [↓stU, stD, reduceEqDiff, ↓reduceIte, Nat.reduceAdd]
    refine wpo_st (b := X.nx) (by simp only [↓stU, stD, reduceEqDiff, ↓reduceIte, Nat.reduceAdd]) (by simp only [↓stU, stD, reduceEqDiff, ↓reduceIte, Nat.reduceAdd]; exact cells_agg _) h1 rfl rfl ?_
    intro Y2 y2 k2 h2
    simp only [↓stU, stD, reduceEqDiff, ↓reduceIte, Nat.reduceAdd]
    have sXY : Same X Y2 := y2.same y1 (Nat.le_refl _)
    have eY2 : Y2.nx = X.nx + 1 := by omega
    have goY := (sXY.2 _ (by omega)).trans goX
    have gaY := (sXY.2 _ (by omega)).trans hga
    have hRY := hR.same sXY
    have hlo1 := ldc (j := 1) goY rfl
    have hlx1 := ldc (j := 1) h2 rfl
    have nW1 : ¬ (S3.nx + 15 = S3.nx + 13) := by omega
    have nW2 : ¬ (X.nx = S3.nx + 13) := by omega
    have lW1 : S3.nx + 15 < Y2.nx := by omega
    have lW2 : X.nx < Y2.nx := by omega
    have hia := row_ia (b := S3.nx + 13) (o := false) hlt
    refine wpc_drd2 (fun c => c = S3.nx + 13) ?_
    intro U0 u0 hu0 mu0
    simp only [↓stU, stD, reduceEqDiff, ↓reduceIte, ↓stV, stW, Nat.reduceAdd, p6, evQ_faddr, isLoad_faddr, faddr_ptr, hlo1, hlx1, nW1, nW2, lW1, lW2, not_false_eq_true]
    refine runD_call0 rfl ?_
    simp only [↓stU, stD, reduceEqDiff, ↓reduceIte, ↓stV, stW, Nat.reduceAdd]
    refine wpf_mono (unknown_spec H (n := na) (by omega)) ?_
    rintro r U1 ⟨⟨nb, rfl, t1, t2, t3⟩, u1⟩
    refine ⟨u1, ?_⟩
    have sYU : Same Y2 U1 := u0.trans u1
    have gaU := (sYU.2 _ (by omega)).trans gaY
    simp only [↓stU, stD, reduceEqDiff, ↓reduceIte, ↓stV, stW, Nat.reduceAdd, natOf_cast, hia]
    refine runD_stc (ps' := []) (h' := U1.h) (b := S3.nx + 13) (p := i) (cs := cs) (w := rowV nb (List.replicate na (-1))) (by rw [flush_nil]) rfl (by simp only [↓stU, stD, reduceEqDiff, ↓reduceIte, ↓stV, stW, Nat.reduceAdd]) (by simp only [↓stU, stD, reduceEqDiff, ↓reduceIte, ↓stV, stW, Nat.reduceAdd]; rfl) gaU (by omega) rfl ?_
    simp only [↓stU, stD, reduceEqDiff, ↓reduceIte, ↓stV, stW, Nat.reduceAdd]
    have lu0 := u0.1
    have lu1 := u1.1
    have hA0 : ((unkA g).take i).length = i := by unfold unkA; rw [List.length_take, List.length_map]; omega
    have hA1 : (unkA g).take (i + 1) = (unkA g).take i ++ [List.replicate na (-1)] := by
      rw [List.take_add_one]
      congr 1
      unfold unkA
      rw [List.getElem?_map, List.getElem?_eq_getElem hlt, hia']
      show [List.replicate (infoAt g (i : Int)).actions.toNat (-1)] = _
      rw [hac, Int.toNat_natCast]
    refine wpc_reg ?_
    simp only [↓stU, stD, reduceEqDiff, ↓reduceIte, ↓stV, stW, Nat.reduceAdd, p39, w1]
    refine ⟨k - 1, by omega, rfl, ⟨show X6.nx ≤ U1.nx by omega, fun c hc hne => ?_⟩, i + 1, (fun j => if j = ((unkA g).take i).length then nb else bs j), cs.set i (rowV nb (List.replicate na (-1))), by omega, by rw [List.length_set]; exact hcl, by simp only; rw [Ev.T.get_set, if_pos rfl], ?_, by simp only [↓stU, stD, reduceEqDiff, ↓reduceIte, ↓stV, stW, Nat.reduceAdd, p2], by simp only [↓stU, stD, reduceEqDiff, ↓reduceIte, ↓stV, stW, Nat.reduceAdd, p3], by simp only [↓stU, stD, reduceEqDiff, ↓reduceIte, ↓stV, stW, Nat.reduceAdd, p4], by simp only [↓stU, stD, reduceEqDiff, ↓reduceIte, ↓stV, stW, Nat.reduceAdd, p6], by simp only [↓stU, stD, reduceEqDiff, ↓reduceIte, ↓stV, stW, Nat.reduceAdd, p7], by simp only [↓stU, stD, reduceEqDiff, ↓reduceIte, ↓stV, stW, Nat.reduceAdd, p37], by simp only [↓stU, stD, reduceEqDiff, ↓reduceIte, ↓stV, stW, Nat.reduceAdd, p38], by simp only [↓stU, stD, reduceEqDiff, ↓reduceIte, ↓stV, stW, Nat.reduceAdd]⟩
    · simp only
      rw [Ev.T.get_set, if_neg hne, sYU.2 _ (by omega), sXY.2 _ (by omega)]
      exact hX.2 c hc hne
    · rw [hA1]
      refine (hRY.same sYU |>.move (X' := ⟨U1.h.set (S3.nx + 13) (some (.cells (cs.set i (rowV nb (List.replicate na (-1)))) false 0)), U1.nx⟩) (Nat.le_refl _) fun j hj => ?_).add (nb := nb) (by omega) (show nb < U1.nx from t2) ?_ (fun j hj => ?_) (fun j hj => ?_) ?_
      · have := (hRY.bl j hj).1
        simp only
        rw [Ev.T.get_set, if_neg (by omega)]
      · simp only
        rw [Ev.T.get_set, if_neg (by omega)]
        exact t3
      · have := (hRY.bl j hj).2.1
        omega
      · rw [List.getElem?_set, if_neg (by omega)]
      · rw [hA0, List.getElem?_set, if_pos rfl, if_pos (by omega)]
  rintro o ⟨F, inr⟩ X7 ⟨rfl, q0, hX7, i, bs, cs, hik, hcl, hga, hR, p2, p3, p4, p6, p7, p37, p38, p39⟩
  simp only at q0 p2 p3 p4 p6 p7
  subst q0
  obtain rfl : i = g.infos.length := by omega
  have hAl : (unkA g).length = g.infos.length := by unfold unkA; rw [List.length_map]
  rw [List.take_of_length_le (by omega)] at hR
  clear p37 p38 p39
  try simp only [↓stU, stD, reduceEqDiff, ↓reduceIte, Nat.reduceAdd]
  have lX7 := hX7.1
  refine wsr ?_
  refine wpo_alloc ?_
  intro X8 x8 m8 g8
  simp only [↓stU, stD, reduceEqDiff, ↓reduceIte, Nat.reduceAdd]
  refine wsr ?_
  simp only [↓stU, stD, reduceEqDiff, ↓reduceIte, Nat.reduceAdd, evQ_func, p2, p3, p6, p7]
  obtain ⟨L, hL⟩ : ∃ L : Lay, L = ⟨S.nx, S3.nx + 15, X4.nx, S.nx + 1, X7.nx, wb, ib, rb, S3.nx + 13, bs, cs⟩ := ⟨_, rfl⟩
  have hLfn : L.fn = .fn 156 [] [.ptr S.nx 0, .ptr (S3.nx + 15) 0, .ptr X4.nx 0, .ptr (S.nx + 1) 0, .ptr X7.nx 0] := by rw [hL]; rfl
  refine wpo_st (b := X7.nx) (cs' := [L.fn]) (by simp only [↓stU, stD, reduceEqDiff, ↓reduceIte, Nat.reduceAdd]) (by rw [hLfn]; simp only [↓stU, stD, reduceEqDiff, ↓reduceIte, Nat.reduceAdd]; rfl) g8 rfl rfl ?_
  intro X9 x9 m9 g9
  simp only [↓stU, stD, reduceEqDiff, ↓reduceIte, Nat.reduceAdd]
  have eX9 : X9.nx = X7.nx + 1 := by omega
  have s79 : Same X7 X9 := x9.same x8 (Nat.le_refl _)
  have old : ∀ c, c < X6.nx → c ≠ S3.nx + 13 → X9.h.get c = X6.h.get c := fun c hc hne => by rw [s79.2 _ (by omega), hX7.2 c hc hne]
  have sX9 : Same S X9 := ⟨by omega, fun c hc => by rw [old c (by omega) (by omega), (sS3.trans sX6).2 _ hc]⟩
  have hWb : ∀ b, L.W g.infos.length b → (X1.nx ≤ b ∧ b < X2.nx) ∨ (X3.nx ≤ b ∧ b < X4.nx) ∨ (X6.nx ≤ b ∧ b < X7.nx) := by
    rw [hL]
    rintro b (rfl | rfl | ⟨j, hj, rfl⟩)
    · exact .inl ⟨b1, b2⟩
    · exact .inr (.inl ⟨d1, d2⟩)
    · obtain ⟨h1, h2, _⟩ := hR.bl j (by omega)
      exact .inr (.inr ⟨h1, h2⟩)
  have C : Laid L S X9 g.infos.length mv := by
    have nW : ∀ c, (c < X1.nx ∨ c = X4.nx ∨ c = X7.nx) → ¬ L.W g.infos.length c := fun c hc hw => by have := hWb c hw; omega
    have w0 : ∀ b, L.W g.infos.length b → S.nx ≤ b ∧ b < X9.nx := fun b hw => by have := hWb b hw; omega
    subst hL
    refine ⟨sX9, ?_, ?_, ?_, ?_, g9, ?_, ⟨?_, nW _ (.inl ?_)⟩, ⟨?_, nW _ (.inl ?_)⟩, ⟨?_, nW _ (.inr (.inl rfl))⟩, ⟨?_, nW _ (.inl ?_)⟩, ⟨?_, nW _ (.inr (.inr rfl))⟩, ⟨?_, nW _ (.inl ?_)⟩, w0, ?_, fun j hj => ?_⟩
    · show X9.h.get S.nx = _
      rw [old _ (by omega) (by omega)]; exact gsb6
    · show X9.h.get (S3.nx + 15) = _
      rw [old _ (by omega) (by omega)]; exact go6
    · show X9.h.get X4.nx = _
      rw [old _ (by omega) (by omega)]; exact g6
    · show X9.h.get (S.nx + 1) = _
      rw [old _ (by omega) (by omega), sX6.2 _ (by omega)]; exact gmb
    · show X9.h.get (S3.nx + 13) = _
      rw [s79.2 _ (by omega)]; exact hga
    · show S.nx < X9.nx; omega
    · show S.nx < X1.nx; omega
    · show S3.nx + 15 < X9.nx; omega
    · show S3.nx + 15 < X1.nx; omega
    · show X4.nx < X9.nx; omega
    · show S.nx + 1 < X9.nx; omega
    · show S.nx + 1 < X1.nx; omega
    · show X7.nx < X9.nx; omega
    · show S3.nx + 13 < X9.nx; omega
    · show S3.nx + 13 < X1.nx; omega
    · show ib ≠ rb; omega
    · obtain ⟨h1, h2, _⟩ := hR.bl j (by omega)
      show ib ≠ bs j ∧ rb ≠ bs j
      omega
  have hD : Dyn L S X9 (List.replicate g.infos.length (-1)) (List.replicate g.infos.length (-1)) (unkA g) := by
    subst hL
    refine ⟨?_, ?_, ?_⟩
    · show X9.h.get ib = _
      rw [old _ (by omega) (by omega)]; exact gi6
    · show X9.h.get rb = _
      rw [old _ (by omega) (by omega)]; exact gr6
    · exact (hR.same s79).low (by omega)
  have hBL : SceneB S L.wb plb szb pv nv iv g (placeL g) Z := by rw [hL]; exact hB
  have hiw := iwalk_spec H hn hm G M hTl hWF hpv hBL (g.nodes.length + 1) (by unfold walkG at hT; exact hT) C hD (SeenP.start G m)
  rw [Nat.zero_add, hTl] at hiw
  have hgm : X9.h.get (S.nx + 1) = some (.cells [mv] false 0) := by have := C.gm; rw [hL] at this; exact this
  have hgk : X9.h.get X7.nx = some (.cells [L.fn] false 0) := g9
  have lm0 := ldrow (p := 0) hgm rfl
  have lk0 := ldrow (p := 0) hgk rfl
  have hm9 := hm.same sX9
  have ia0 := hm9.iaddr hml
  have la0 := hm9.ld hml
  have nWt : ¬ L.W g.infos.length (S.nx + 2) := fun hw => by have := hWb _ hw; omega
  have nWo : ¬ L.W g.infos.length (S3.nx + 15) := fun hw => by have := hWb _ hw; omega
  have nWa : ¬ L.W g.infos.length (S3.nx + 13) := fun hw => by have := hWb _ hw; omega
  have gt9 : X9.h.get (S.nx + 2) = some (.cells [.nilsl, .nilsl] false 0) := by rw [old _ (by omega) (by omega), sX6.2 _ (by omega)]; exact gtb
  have go9 : X9.h.get (S3.nx + 15) = some (.cells [.sl ib 0 g.infos.length g.infos.length false, .sl (S3.nx + 13) 0 g.infos.length g.infos.length false] false 0) := by rw [old _ (by omega) (by omega)]; exact go6
  have ga9 : X9.h.get (S3.nx + 13) = some (.cells cs false 0) := by rw [s79.2 _ (by omega)]; exact hga
  have lt9 : S.nx + 2 < X9.nx := by omega
  have lo9 : S3.nx + 15 < X9.nx := by omega
  have la9 : S3.nx + 13 < X9.nx := by omega
  have lt0 : S.nx ≤ S3.nx + 13 := by omega
  have li0 : S.nx ≤ ib := by omega
  have li9 : ib < X9.nx := by omega
  have hrb : L.bs = bs ∧ L.cs = cs ∧ L.ib = ib := by rw [hL]; exact ⟨rfl, rfl, rfl⟩
  clear hR hga s79 x9 m9 x8 m8 g8 g9 lX7 hX7 old
  refine wpc_seq (wpc_seq (wpc_mono (Q := fun o A' Y => o = .normal ∧ A'.inr = false ∧ ButW (L.W g.infos.length) X9 Y ∧ tmpV 4 A'.F = .ptr (S.nx + 2) 0 ∧ tmpV 6 A'.F = .ptr (S3.nx + 15) 0 ∧ ∃ t, tmpV 61 A'.F = .bool t ∧ (t = true → ¬ Auto g m) ∧ (t = false → m.getD 0 0 = 0 ∧ ∃ I' F' A', Dyn L S Y I' F' A' ∧ SeenP g m g.nodes.length g.nodes.length I' F' A')) (wpc_reg ?_) ?_))
  · by_cases h0 : m.getD 0 0 = 0
    rotate_left
    · simp only [↓stU, stD, reduceEqDiff, ↓reduceIte, ↓stV, stW, Nat.reduceAdd, p3, lm0, nat0, ia0, la0, decide_eq_true (show m.getD 0 0 ≠ 0 from h0), p4, p6]
      exact ⟨ButW.refl _ _, true, rfl, fun _ a => h0 a.root, fun h => by cases h⟩
    simp only [↓stU, stD, reduceEqDiff, ↓reduceIte, ↓stV, stW, Nat.reduceAdd, p3, lm0, nat0, ia0, la0, decide_eq_false (show ¬ m.getD 0 0 ≠ 0 from fun h => h h0), lk0]
    refine wpo_call ?_
    simp only [↓stU, stD, reduceEqDiff, ↓reduceIte, ↓stV, stW, Nat.reduceAdd]
    have e0 : toM m 0 = 0 := by unfold toM; rw [h0]; rfl
    rw [e0] at hiw
    refine wpf_mono hiw ?_
    rintro _ Y ⟨bY, t, rfl, ht0, ht1⟩
    simp only [↓stU, stD, reduceEqDiff, ↓reduceIte, ↓stV, stW, Nat.reduceAdd, un_not, p4, p6]
    refine ⟨bY, !t, rfl, fun h => ?_, fun h => ⟨h0, ?_⟩⟩
    · cases t with
      | true => cases h
      | false => exact ht0 rfl
    · cases t with
      | false => cases h
      | true => exact ht1 rfl
  clear p2 p3 p4 p6 p7 hiw
  rintro o ⟨F, inr⟩ Y ⟨rfl, q0, bY, p4, p6, t, p61, ht1, ht0⟩
  simp only at q0 p4 p6 p61
  subst q0
  have gtY := (bY.2 _ lt9 nWt).trans gt9
  have sY : Same S Y := C.same bY
  have lY := bY.1
  try simp only [↓stU, stD, reduceEqDiff, ↓reduceIte, ↓stV, stW, Nat.reduceAdd]
  cases t with
  | true =>
    refine wpc_yes (by simp only [↓stU, stD, reduceEqDiff, ↓reduceIte, ↓stV, stW, Nat.reduceAdd, p61]) ?_
    refine wsr ?_
    simp only [↓stU, stD, reduceEqDiff, ↓reduceIte, Nat.reduceAdd, ev_build0, isLoad_build]
    refine wpo_st (b := S.nx + 2) (cs' := [.nilsl, .nilsl]) (by simp only [↓stU, stD, reduceEqDiff, ↓reduceIte, Nat.reduceAdd, p4]) (by simp only [↓stU, stD, reduceEqDiff, ↓reduceIte, Nat.reduceAdd]; exact cells_agg _) gtY rfl rfl ?_
    intro Y2 y2 k2 h2
    simp only [↓stU, stD, reduceEqDiff, ↓reduceIte, Nat.reduceAdd]
    refine wpc_ret ?_
    have ld2 := ldall (n := 2) h2 rfl
    simp only [↓stU, stD, reduceEqDiff, ↓reduceIte, Nat.reduceAdd, results_cell, p4, ld2]
    exact ⟨⟨by have := sY.1; omega, fun c hc => by rw [y2.2 _ (by have := sY.1; omega) (by omega), sY.2 _ hc]⟩, _, _, false, rfl, ⟨fun h => (by cases h), fun a => absurd a (ht1 rfl)⟩, fun h => by cases h⟩
  | false =>
    obtain ⟨h0, I', F', A', hDY, hSY⟩ := ht0 rfl
    refine wpc_non (by simp only [↓stU, stD, reduceEqDiff, ↓reduceIte, ↓stV, stW, Nat.reduceAdd, p61]) (wpc_skip ?_)
    try simp only [↓stU, stD, reduceEqDiff, ↓reduceIte, ↓stV, stW, Nat.reduceAdd]
    have goY := (bY.2 _ lo9 nWo).trans go9
    have gaY := (bY.2 _ la9 nWa).trans ga9
    have lo2 := ldall (n := 2) goY rfl
    obtain ⟨hA, hI, hAe⟩ := hSY.full G M h0
    refine wsr ?_
    simp only [↓stU, stD, reduceEqDiff, ↓reduceIte, Nat.reduceAdd, p6, lo2]
    refine wpo_st (b := S.nx + 2) (cs' := [.sl ib 0 g.infos.length g.infos.length false, .sl (S3.nx + 13) 0 g.infos.length g.infos.length false]) (by simp only [↓stU, stD, reduceEqDiff, ↓reduceIte, Nat.reduceAdd, p4]) (by simp only [↓stU, stD, reduceEqDiff, ↓reduceIte, Nat.reduceAdd]; exact cells_agg _) gtY rfl rfl ?_
    intro Y2 y2 k2 h2
    simp only [↓stU, stD, reduceEqDiff, ↓reduceIte, Nat.reduceAdd]
    refine wpc_ret ?_
    have ld2 := ldall (n := 2) h2 rfl
    simp only [↓stU, stD, reduceEqDiff, ↓reduceIte, Nat.reduceAdd, results_cell, p4, ld2]
    obtain ⟨r1, r2, r3⟩ := hrb
    have gi := hDY.gi
    have hrw := hDY.rw
    rw [r3, hI] at gi
    rw [r1, r2, hAe] at hrw
    have hlI : (imgI g m).length = g.infos.length := by simp [imgI]
    have hlA : (imgA g m).length = g.infos.length := by simp [imgA]
    refine ⟨⟨by have := sY.1; omega, fun c hc => by rw [y2.2 _ (by have := sY.1; omega) (by omega), sY.2 _ hc]⟩, _, _, true, rfl, ⟨fun _ => hA, fun _ => rfl⟩, fun _ => ⟨⟨ib, by rw [hlI], li0, by omega, ?_⟩, S3.nx + 13, bs, cs, by rw [hlA], lt0, by omega, ?_, hrw.move (by omega) fun j hj => ?_⟩⟩
    · rw [y2.2 _ (by omega) (by omega)]; exact gi
    · rw [y2.2 _ (by omega) (by omega)]; exact gaY
    · obtain ⟨h1, h2', _⟩ := hrw.bl j hj
      refine y2.2 _ h2' fun e => nWt ?_
      rw [← e, ← r1]
      exact .inr (.inr ⟨j, by rw [← hlA]; exact hj, rfl⟩)
theorem Stable_p {g : PGame} {m : List Int} : Stable (ImgP g m) := fun {S0 S1 S2 x y} h hn hh => by
  obtain ⟨⟨b, h1, h2, h3, h4⟩, ab, bs, cs, k1, k2, k3, k4, k5⟩ := h
  refine ⟨⟨b, h1, h2, Nat.lt_of_lt_of_le h3 hn, (hh b h2 h3).trans h4⟩, ab, bs, cs, k1, k2, Nat.lt_of_lt_of_le k3 hn, (hh ab k2 k3).trans k4, k5.move hn fun j hj => ?_⟩
  obtain ⟨a, b, _⟩ := k5.bl j hj
  exact hh _ a b
theorem img_H {S : St} {nv iv mv : AV} {g : PGame} {m : List Int} (H : Has fns) (hn : IsSlG 6 NodeE S nv g.nodes) (hi : IsSlG 2 InfoE S iv g.infos) (hm : IsSl .i64 S mv m) : ImgH fns S nv iv mv g m (Auto g m) (ImgP g m) := fun h0 h1 h2 _ S0 wb plb szb pv T Z hS0 hT hTl hpv hB =>
  image_spec H (IsSlG.same (E := NodeE) firm_node hn hS0) (IsSlG.same (E := InfoE) firm_info hi hS0) (hm.same hS0) (good_of h0) ⟨h1, h2⟩ hT hTl hpv hB
end Go.Ev.Gl

namespace Go.Ev.Gl
variable {fns : T AFn}

/-! ## SymmetryMaps -/
theorem isl_case {S : St} {v : AV} {l : List Int} {e : Int} (h0 : e ≠ 0 → v = .nilsl) (h1 : e = 0 → IsSl .i64 S v l) : IsSl .i64 S v (if e = 0 then l else []) := by
  by_cases h : e = 0
  · rw [if_pos h]; exact h1 h
  · rw [if_neg h, h0 h]; exact .inl ⟨rfl, .inl rfl⟩
theorem isg_case {S : St} {v : AV} {l : List (List Int)} {e : Int} (h0 : e ≠ 0 → v = .nilsl) (h1 : e = 0 → IsSlG 1 SlE S v l) : IsSlG 1 SlE S v (if e = 0 then l else []) := by
  by_cases h : e = 0
  · rw [if_pos h]; exact h1 h
  · rw [if_neg h, h0 h]; exact .inl ⟨rfl, .inl rfl⟩
theorem ImgP.i {g : PGame} {m : List Int} {S S' : St} {x y : AV} (h : ImgP g m S S' x y) : IsSl .i64 S' x (imgI g m) := h.1.is
theorem ImgP.a {g : PGame} {m : List Int} {S S' : St} {x y : AV} (h : ImgP g m S S' x y) : IsSlG 1 SlE S' y (imgA g m) := by
  obtain ⟨_, ab, bs, cs, rfl, k2, k3, k4, k5⟩ := h
  exact k5.is k4 k3 (Nat.le_refl _)
theorem XImgP.i {g : PGame} {m : List Int} {S S' : St} {x y : AV} (h : XImgP g m S S' x y) : IsSl .i64 S' x (imgI g m) := by
  have h1 := h.1
  rw [show g.infos.length = (imgI g m).length by simp [imgI]] at h1
  exact h1.is
theorem XImgP.a {g : PGame} {m : List Int} {S S' : St} {x y : AV} (h : XImgP g m S S' x y) : IsSlG 1 SlE S' y (imgA g m) := by
  obtain ⟨_, cs, bs, h2, h3⟩ := h
  have hl : (imgA g m).length = g.infos.length := by simp [imgA]
  rcases h2 with ⟨rfl, h0, _⟩ | ⟨b, rfl, h4, h5, h6, _⟩
  · exact .inl ⟨List.length_eq_zero_iff.1 (by omega), .inl rfl⟩
  · have := h3.is (cap := g.infos.length) (o' := true) h6 h5 (by omega)
    rw [hl] at this
    exact this
theorem len_case {α : Type} {l : List α} {e : Int} {n : Nat} (h : e = 0 → l.length ≤ n) : (if e = 0 then l else []).length ≤ n := by
  by_cases h0 : e = 0
  · rw [if_pos h0]; exact h h0
  · rw [if_neg h0]; exact Nat.zero_le _
theorem invL_len (m : List Int) : (invL m).length = m.length := by unfold invL; rw [plcN_len, List.length_replicate]

set_option maxHeartbeats 4000000 in
theorem maps_spec {S : St} {nv iv av bv : AV} {g : PGame} {a b : List Int} (H : Has fns) (hAw : ∀ S, wpf fns (.fn 14 [] []) [] S fun r S' => r = .bool true ∧ Same S S') (hn : IsSlG 6 NodeE S nv g.nodes) (hi : IsSlG 2 InfoE S iv g.infos) (ha : IsSl .i64 S av a) (hb : IsSl .i64 S bv b) :
    wpf fns (.fn 5 [] []) [.agg [.int .i64 g.players, nv, iv], av, bv] S fun r S' => r = .bool true ∧ Same S S' := by
  refine wpf_fn H.f5 (by simp) ?_
  simp only [↓stU, stD, reduceEqDiff, ↓reduceIte, ↓stV, stW, Nat.reduceAdd]
  refine wsr ?_
  refine wpo_box (by simp only [↓stU, stD, reduceEqDiff, ↓reduceIte, ↓stV, stW, Nat.reduceAdd]; exact cells_agg _) ?_
  intro S0 s0 n0 c0
  simp only [↓stU, stD, reduceEqDiff, ↓reduceIte, ↓stV, stW, Nat.reduceAdd]
  have lg : S.nx < S0.nx := by omega
  refine wss ?_
  refine wpo_call ?_
  simp only [↓stU, stD, reduceEqDiff, ↓reduceIte, ↓stV, stW, Nat.reduceAdd]
  refine wpf_mono (hAw S0) ?_
  rintro _ Y0 ⟨rfl, y0⟩
  simp only [↓stU, stD, reduceEqDiff, ↓reduceIte, ↓stV, stW, Nat.reduceAdd, un_not, Bool.not_true]
  refine wpc_non (by simp only [↓stU, stD, reduceEqDiff, ↓reduceIte, ↓stV, stW, Nat.reduceAdd]) (wpc_skip ?_)
  try simp only [↓stU, stD, reduceEqDiff, ↓reduceIte, ↓stV, stW, Nat.reduceAdd]
  have tY0 := s0.trans y0
  have cY0 := (y0.2 _ lg).trans c0
  have lY0 := Nat.lt_of_lt_of_le lg y0.1
  refine wss ?_
  simp only [↓stU, stD, reduceEqDiff, ↓reduceIte, ↓stV, stW, Nat.reduceAdd, evQ_faddr, faddr_ptr, lg3_1 cY0, hn.len]
  by_cases hN : (60 : Int) < ((g.nodes.length : Nat) : Int)
  · refine wpc_yes (by simp only [↓stU, stD, reduceEqDiff, ↓reduceIte, ↓stV, stW, Nat.reduceAdd, decide_eq_true (show ((g.nodes.length : Nat) : Int) > 60 from hN)]) ?_
    refine wsr ?_
    simp only [↓stU, stD, reduceEqDiff, ↓reduceIte, ↓stV, stW, Nat.reduceAdd]
    refine wpc_ret ?_
    simp only [↓stU, stD, reduceEqDiff, ↓reduceIte, ↓stV, stW, Nat.reduceAdd]
    exact tY0
  refine wpc_non (by simp only [↓stU, stD, reduceEqDiff, ↓reduceIte, ↓stV, stW, Nat.reduceAdd, decide_eq_false (show ¬ ((g.nodes.length : Nat) : Int) > 60 from hN)]) (wpc_skip ?_)
  try simp only [↓stU, stD, reduceEqDiff, ↓reduceIte, ↓stV, stW, Nat.reduceAdd]
  have hln : g.nodes.length ≤ 100000 := by omega
  have hnS : ∀ {X}, Same S X → IsSlG 6 NodeE X nv g.nodes := fun h => IsSlG.same (E := NodeE) firm_node hn h
  have hiS : ∀ {X}, Same S X → IsSlG 2 InfoE X iv g.infos := fun h => IsSlG.same (E := InfoE) firm_info hi h
  have PA : ∀ {X}, Same S X → ImgH fns X nv iv av g a (Auto g a) (ImgP g a) := fun h => img_H H (hnS h) (hiS h) (ha.same h)
  have PB : ∀ {X}, Same S X → ImgH fns X nv iv bv g b (Auto g b) (ImgP g b) := fun h => img_H H (hnS h) (hiS h) (hb.same h)
  have XA : ∀ {X}, Same S X → XImgH fns X nv iv av g a (Auto g a) (XImgP g a) := fun h => ximg_H H (hnS h) (hiS h) (ha.same h)
  have XB : ∀ {X}, Same S X → XImgH fns X nv iv bv g b (Auto g b) (XImgP g b) := fun h => ximg_H H (hnS h) (hiS h) (hb.same h)
  have hE : chkE g a (Auto g a) = 0 → g.infos.length ≤ 200 ∧ a.length ≤ 100 := fun h => by
    obtain ⟨h1, h2⟩ := chkE_zero h
    have := (good_of h1).ni
    have := (mapE_zero h2).1
    omega
  have hP : prodE g a b (Auto g a) (Auto g b) = 0 → a.length ≤ 100 := fun h => by
    refine (hE ?_).2
    unfold prodE at h
    split at h
    · rename_i h1; exact absurd h h1
    · rename_i h1; exact Decidable.not_not.1 h1
  -- parlour/symmetry.Infos
  refine wsr ?_
  simp only [↓stU, stD, reduceEqDiff, ↓reduceIte, ↓stV, stW, Nat.reduceAdd, lg3_a cY0]
  refine wpo_call ?_
  simp only [↓stU, stD, reduceEqDiff, ↓reduceIte, ↓stV, stW, Nat.reduceAdd]
  refine wpf_mono (infos_spec (P := ImgP g a) (ok := Auto g a) H (Stable_p (g := g) (m := a)) (hnS tY0) (hiS tY0) (ha.same tY0) hln (PA tY0)) ?_
  rintro _ Y1 ⟨y1, r0, q0, rfl, e0, d0⟩
  have i0 := isl_case (l := imgI g a) e0 fun h => by obtain ⟨_, _, p⟩ := d0 h; exact p.i
  clear e0 d0
  simp only [↓stU, stD, reduceEqDiff, ↓reduceIte, ↓stV, stW, Nat.reduceAdd, ex0, ex1]
  have tY1 := tY0.trans y1
  have cY1 := (y1.2 _ lY0).trans cY0
  have lY1 := Nat.lt_of_lt_of_le lY0 y1.1
  -- parlour/parlourref14.Infos
  refine wsr ?_
  simp only [↓stU, stD, reduceEqDiff, ↓reduceIte, ↓stV, stW, Nat.reduceAdd, lg3_a cY1]
  refine wpo_call ?_
  simp only [↓stU, stD, reduceEqDiff, ↓reduceIte, ↓stV, stW, Nat.reduceAdd]
  refine wpf_mono (xinfos_spec (P := XImgP g a) (ok := Auto g a) H (hnS tY1) (hiS tY1) (ha.same tY1) hln (XA tY1)) ?_
  rintro _ Y2 ⟨y2, r1, q1, rfl, e1, d1⟩
  have i1 := isl_case (l := imgI g a) e1 fun h => by obtain ⟨_, _, p⟩ := d1 h; exact p.i
  clear e1 d1
  simp only [↓stU, stD, reduceEqDiff, ↓reduceIte, ↓stV, stW, Nat.reduceAdd, ex0, ex1]
  have tY2 := tY1.trans y2
  have cY2 := (y2.2 _ lY1).trans cY1
  have lY2 := Nat.lt_of_lt_of_le lY1 y2.1
  -- parlour/symmetry.Actions
  refine wsr ?_
  simp only [↓stU, stD, reduceEqDiff, ↓reduceIte, ↓stV, stW, Nat.reduceAdd, lg3_a cY2]
  refine wpo_call ?_
  simp only [↓stU, stD, reduceEqDiff, ↓reduceIte, ↓stV, stW, Nat.reduceAdd]
  refine wpf_mono (actions_spec (P := ImgP g a) (ok := Auto g a) H (Stable_p (g := g) (m := a)) (hnS tY2) (hiS tY2) (ha.same tY2) hln (PA tY2)) ?_
  rintro _ Y3 ⟨y3, r2, q2, rfl, e2, d2⟩
  have i2 := isg_case (l := imgA g a) e2 fun h => by obtain ⟨_, _, p⟩ := d2 h; exact p.a
  clear e2 d2
  simp only [↓stU, stD, reduceEqDiff, ↓reduceIte, ↓stV, stW, Nat.reduceAdd, ex0, ex1]
  have tY3 := tY2.trans y3
  have cY3 := (y3.2 _ lY2).trans cY2
  have lY3 := Nat.lt_of_lt_of_le lY2 y3.1
  -- parlour/parlourref14.Actions
  refine wsr ?_
  simp only [↓stU, stD, reduceEqDiff, ↓reduceIte, ↓stV, stW, Nat.reduceAdd, lg3_a cY3]
  refine wpo_call ?_
  simp only [↓stU, stD, reduceEqDiff, ↓reduceIte, ↓stV, stW, Nat.reduceAdd]
  refine wpf_mono (xactions_spec (P := XImgP g a) (ok := Auto g a) H (hnS tY3) (hiS tY3) (ha.same tY3) hln (XA tY3)) ?_
  rintro _ Y4 ⟨y4, r3, q3, rfl, e3, d3⟩
  have i3 := isg_case (l := imgA g a) e3 fun h => by obtain ⟨_, _, p⟩ := d3 h; exact p.a
  clear e3 d3
  simp only [↓stU, stD, reduceEqDiff, ↓reduceIte, ↓stV, stW, Nat.reduceAdd, ex0, ex1]
  have tY4 := tY3.trans y4
  have cY4 := (y4.2 _ lY3).trans cY3
  have lY4 := Nat.lt_of_lt_of_le lY3 y4.1
  -- parlour/symmetry.Product
  refine wsr ?_
  simp only [↓stU, stD, reduceEqDiff, ↓reduceIte, ↓stV, stW, Nat.reduceAdd, lg3_a cY4]
  refine wpo_call ?_
  simp only [↓stU, stD, reduceEqDiff, ↓reduceIte, ↓stV, stW, Nat.reduceAdd]
  refine wpf_mono (product_spec (P := ImgP g a) (P' := ImgP g b) (oka := Auto g a) (okb := Auto g b) H (Stable_p (g := g) (m := a)) (Stable_p (g := g) (m := b)) (hnS tY4) (hiS tY4) (ha.same tY4) (hb.same tY4) hln (PA tY4) (PB tY4)) ?_
  rintro _ Y5 ⟨y5, x4, rfl, e4, d4⟩
  have i4 := isl_case (l := prodL a b) e4 d4
  clear e4 d4
  simp only [↓stU, stD, reduceEqDiff, ↓reduceIte, ↓stV, stW, Nat.reduceAdd, ex0, ex1]
  have tY5 := tY4.trans y5
  have cY5 := (y5.2 _ lY4).trans cY4
  have lY5 := Nat.lt_of_lt_of_le lY4 y5.1
  -- parlour/parlourref14.Product
  refine wsr ?_
  simp only [↓stU, stD, reduceEqDiff, ↓reduceIte, ↓stV, stW, Nat.reduceAdd, lg3_a cY5]
  refine wpo_call ?_
  simp only [↓stU, stD, reduceEqDiff, ↓reduceIte, ↓stV, stW, Nat.reduceAdd]
  refine wpf_mono (xproduct_spec (P := XImgP g a) (P' := XImgP g b) (oka := Auto g a) (okb := Auto g b) H (hnS tY5) (hiS tY5) (ha.same tY5) (hb.same tY5) hln (XA tY5) (XB tY5)) ?_
  rintro _ Y6 ⟨y6, x5, rfl, e5, d5⟩
  have i5 := isl_case (l := prodL a b) e5 d5
  clear e5 d5
  simp only [↓stU, stD, reduceEqDiff, ↓reduceIte, ↓stV, stW, Nat.reduceAdd, ex0, ex1]
  have tY6 := tY5.trans y6
  have cY6 := (y6.2 _ lY5).trans cY5
  have lY6 := Nat.lt_of_lt_of_le lY5 y6.1
  -- parlour/symmetry.Inverse
  refine wsr ?_
  simp only [↓stU, stD, reduceEqDiff, ↓reduceIte, ↓stV, stW, Nat.reduceAdd, lg3_a cY6]
  refine wpo_call ?_
  simp only [↓stU, stD, reduceEqDiff, ↓reduceIte, ↓stV, stW, Nat.reduceAdd]
  refine wpf_mono (inverse_spec (P := ImgP g a) (ok := Auto g a) H (Stable_p (g := g) (m := a)) (hnS tY6) (hiS tY6) (ha.same tY6) hln (PA tY6)) ?_
  rintro _ Y7 ⟨y7, x6, rfl, e6, d6⟩
  have i6 := isl_case (l := invL a) e6 d6
  clear e6 d6
  simp only [↓stU, stD, reduceEqDiff, ↓reduceIte, ↓stV, stW, Nat.reduceAdd, ex0, ex1]
  have tY7 := tY6.trans y7
  have cY7 := (y7.2 _ lY6).trans cY6
  have lY7 := Nat.lt_of_lt_of_le lY6 y7.1
  -- parlour/parlourref14.Inverse
  refine wsr ?_
  simp only [↓stU, stD, reduceEqDiff, ↓reduceIte, ↓stV, stW, Nat.reduceAdd, lg3_a cY7]
  refine wpo_call ?_
  simp only [↓stU, stD, reduceEqDiff, ↓reduceIte, ↓stV, stW, Nat.reduceAdd]
  refine wpf_mono (xinverse_spec (P := XImgP g a) (ok := Auto g a) H (hnS tY7) (hiS tY7) (ha.same tY7) hln (XA tY7)) ?_
  rintro _ Y8 ⟨y8, x7, rfl, e7, d7⟩
  have i7 := isl_case (l := invL a) e7 d7
  clear e7 d7
  simp only [↓stU, stD, reduceEqDiff, ↓reduceIte, ↓stV, stW, Nat.reduceAdd, ex0, ex1]
  have tY8 := tY7.trans y8
  have cY8 := (y8.2 _ lY7).trans cY7
  have lY8 := Nat.lt_of_lt_of_le lY7 y8.1
  have sg := agg3_self (same_int .i64 g.players) (IsSlG.self hn) (IsSlG.self hi)
  refine wpc_seq (wpc_drd1 (fun _ => False) ?_)
  intro Z0 z0
  have tZ0 := tY8.trans z0
  have uZ0 := z0
  simp only [↓stU, stD, reduceEqDiff, ↓reduceIte, ↓stV, stW, Nat.reduceAdd, lg3_a cY8, lY8, not_false_eq_true, sg]
  refine runD_call0 rfl ?_
  simp only [↓stU, stD, reduceEqDiff, ↓reduceIte, ↓stV, stW, Nat.reduceAdd]
  refine wpf_mono (check_spec (P := ImgP g a) (ok := Auto g a) H (Stable_p (g := g) (m := a)) (hnS tZ0) (hiS tZ0) (ha.same tZ0) hln (PA tZ0)) ?_
  rintro _ Z1 ⟨rfl, z1⟩
  refine ⟨z1, ?_⟩
  have tZ1 := tZ0.trans z1
  have uZ1 := uZ0.trans z1
  simp only [↓stU, stD, reduceEqDiff, ↓reduceIte, ↓stV, stW, Nat.reduceAdd, lg3_a cY8, lY8, not_false_eq_true, sg]
  refine runD_call0 rfl ?_
  simp only [↓stU, stD, reduceEqDiff, ↓reduceIte, ↓stV, stW, Nat.reduceAdd]
  refine wpf_mono (xCheck_spec (P := XImgP g a) (ok := Auto g a) H (hnS tZ1) (hiS tZ1) (ha.same tZ1) hln (XA tZ1)) ?_
  rintro _ Z2 ⟨rfl, z2⟩
  refine ⟨z2, ?_⟩
  have tZ2 := tZ1.trans z2
  have uZ2 := uZ1.trans z2
  simp only [↓stU, stD, reduceEqDiff, ↓reduceIte, ↓stV, stW, Nat.reduceAdd, decide_true]
  refine runD_call0 rfl ?_
  simp only [↓stU, stD, reduceEqDiff, ↓reduceIte, ↓stV, stW, Nat.reduceAdd]
  refine wpf_mono (alikeI_spec H (i0.same (((((((y2.trans y3).trans y4).trans y5).trans y6).trans y7).trans y8).trans uZ2)) (i1.same ((((((y3.trans y4).trans y5).trans y6).trans y7).trans y8).trans uZ2)) (len_case fun h => by have := (hE h).1; simp only [imgI, List.length_map, List.length_range]; omega)) ?_
  rintro _ Z3 ⟨rfl, z3⟩
  refine ⟨z3, ?_⟩
  have tZ3 := tZ2.trans z3
  have uZ3 := uZ2.trans z3
  simp only [↓stU, stD, reduceEqDiff, ↓reduceIte, ↓stV, stW, Nat.reduceAdd, decide_true]
  refine runD_call0 rfl ?_
  simp only [↓stU, stD, reduceEqDiff, ↓reduceIte, ↓stV, stW, Nat.reduceAdd]
  refine wpf_mono (alikeL_spec H (IsSlG.same (E := SlE) firm_sl i2 (((((y4.trans y5).trans y6).trans y7).trans y8).trans uZ3)) (IsSlG.same (E := SlE) firm_sl i3 ((((y5.trans y6).trans y7).trans y8).trans uZ3)) ?_ ?_) ?_
  · exact len_case fun h => by have := (hE h).1; simp only [imgA, List.length_map, List.length_range]; omega
  · intro x hx
    by_cases h : chkE g a (Auto g a) = 0
    · rw [if_pos h] at hx
      obtain ⟨h1, h2⟩ := chkE_zero h
      unfold imgA at hx
      obtain ⟨s, hs, rfl⟩ := List.mem_map.1 hx
      have G := good_of h1
      have := G.nxt _ (G.fst s (List.mem_range.1 hs)).1
      rw [List.length_map, List.length_range]
      omega
    · rw [if_neg h] at hx; cases hx
  rintro _ Z4 ⟨rfl, z4⟩
  refine ⟨z4, ?_⟩
  have tZ4 := tZ3.trans z4
  have uZ4 := uZ3.trans z4
  simp only [↓stU, stD, reduceEqDiff, ↓reduceIte, ↓stV, stW, Nat.reduceAdd, decide_true]
  refine runD_call0 rfl ?_
  simp only [↓stU, stD, reduceEqDiff, ↓reduceIte, ↓stV, stW, Nat.reduceAdd]
  refine wpf_mono (alikeI_spec H (i4.same (((y6.trans y7).trans y8).trans uZ4)) (i5.same ((y7.trans y8).trans uZ4)) (len_case fun h => by have := hP h; simp only [prodL, List.length_map]; omega)) ?_
  rintro _ Z5 ⟨rfl, z5⟩
  refine ⟨z5, ?_⟩
  have tZ5 := tZ4.trans z5
  have uZ5 := uZ4.trans z5
  simp only [↓stU, stD, reduceEqDiff, ↓reduceIte, ↓stV, stW, Nat.reduceAdd, decide_true]
  refine runD_call0 rfl ?_
  simp only [↓stU, stD, reduceEqDiff, ↓reduceIte, ↓stV, stW, Nat.reduceAdd]
  refine wpf_mono (alikeI_spec H (i6.same (y8.trans uZ5)) (i7.same uZ5) (len_case fun h => by have := (hE h).2; rw [invL_len]; omega)) ?_
  rintro _ Z6 ⟨rfl, z6⟩
  refine ⟨z6, ?_⟩
  have tZ6 := tZ5.trans z6
  have uZ6 := uZ5.trans z6
  simp only [↓stU, stD, reduceEqDiff, ↓reduceIte, ↓stV, stW, Nat.reduceAdd, decide_true]
  refine wpc_ret ?_
  simp only [↓stU, stD, reduceEqDiff, ↓reduceIte, ↓stV, stW, Nat.reduceAdd]
  exact tZ6
end Go.Ev.Gl

namespace Go.Ev.Gl

/-! ## Games and lists as arguments -/
theorem IsSlG.conv {k : Nat} {α β : Type} {E : St → List AV → α → Prop} {E' : St → List AV → β → Prop} {f : α → β} {S : St} {v : AV} {l : List α} (hf : ∀ e a, E S e a → E' S e (f a)) (h : IsSlG k E S v l) : IsSlG k E' S v (l.map f) := by
  rcases h with ⟨rfl, h⟩ | ⟨b, off, cap, o, cs, rfl, h2, h3, h4, h5⟩
  · exact .inl ⟨rfl, h⟩
  · refine .inr ⟨b, off, cap, o, cs, by rw [List.length_map], by rw [List.length_map]; exact h2, h3, h4, fun i a hi => ?_⟩
    rw [List.getElem?_map, Option.map_eq_some_iff] at hi
    obtain ⟨x, hx, rfl⟩ := hi
    obtain ⟨e, e1, e2, e3⟩ := h5 i x hx
    exact ⟨e, e1, e2, hf e x e3⟩
theorem isSl_ints {k : IntKind} {S : St} {v : AV} {l : List Int} (h : IsSlG 1 (IntE k) S v l) : IsSl k S v l := by
  rcases h with h | ⟨b, off, cap, o, cs, rfl, h2, h3, h4, h5⟩
  · exact .inl h
  · refine .inr ⟨b, off, cap, o, cs, rfl, h2, h3, h4, fun i x hi => ?_⟩
    obtain ⟨e, e1, e2, rfl, _⟩ := h5 i x hi
    have := e2 0 _ rfl
    rw [Nat.mul_one, Nat.add_zero] at this
    exact this
abbrev EInts (k : IntKind) : St → List AV → List Int → Prop := SlOf 1 (IntE k)
abbrev EN1 : St → List AV → (List Int × Unit) → Prop := ConsE (EInts .i64) NoE
abbrev EN2 : St → List AV → (List Int × List Int × Unit) → Prop := ConsE (EInts .i64) EN1
abbrev EN3 : St → List AV → (List Int × List Int × List Int × Unit) → Prop := ConsE (EInts .i64) EN2
abbrev EN4 : St → List AV → (Int × List Int × List Int × List Int × Unit) → Prop := ConsE (IntE .i64) EN3
abbrev EN5 : St → List AV → (Int × Int × List Int × List Int × List Int × Unit) → Prop := ConsE (IntE .i64) EN4
abbrev ENode : St → List AV → (Int × Int × Int × List Int × List Int × List Int × Unit) → Prop := ConsE (IntE .i64) EN5
abbrev EI1 : St → List AV → (Int × Unit) → Prop := ConsE (IntE .i64) NoE
abbrev EInfo : St → List AV → (Int × Int × Unit) → Prop := ConsE (IntE .i64) EI1
abbrev EG1 : St → List AV → (List (Int × Int × Unit) × Unit) → Prop := ConsE (SlOf 2 EInfo) NoE
abbrev EG2 : St → List AV → (List (Int × Int × Int × List Int × List Int × List Int × Unit) × List (Int × Int × Unit) × Unit) → Prop := ConsE (SlOf 6 ENode) EG1
abbrev EGame : St → List AV → (Int × List (Int × Int × Int × List Int × List Int × List Int × Unit) × List (Int × Int × Unit) × Unit) → Prop := ConsE (IntE .i64) EG2
theorem firm_ints {k : IntKind} : Firm (EInts k) := Ev.firm_sl (E := IntE k) firm_int
theorem firm_n1 : Firm EN1 := firm_cons (E := EInts .i64) (R := NoE) firm_ints firm_no
theorem firm_n2 : Firm EN2 := firm_cons (E := EInts .i64) (R := EN1) firm_ints firm_n1
theorem firm_n3 : Firm EN3 := firm_cons (E := EInts .i64) (R := EN2) firm_ints firm_n2
theorem firm_n4 : Firm EN4 := firm_cons (E := IntE .i64) (R := EN3) firm_int firm_n3
theorem firm_n5 : Firm EN5 := firm_cons (E := IntE .i64) (R := EN4) firm_int firm_n4
theorem firm_enode : Firm ENode := firm_cons (E := IntE .i64) (R := EN5) firm_int firm_n5
theorem firm_i1 : Firm EI1 := firm_cons (E := IntE .i64) (R := NoE) firm_int firm_no
theorem firm_einfo : Firm EInfo := firm_cons (E := IntE .i64) (R := EI1) firm_int firm_i1
def nodeT (a : Int × Int × Int × List Int × List Int × List Int × Unit) : PNode := ⟨a.1, a.2.1, a.2.2.1, a.2.2.2.1, a.2.2.2.2.1, a.2.2.2.2.2.1⟩
def infoT (a : Int × Int × Unit) : PInfo := ⟨a.1, a.2.1⟩
theorem ints_is {k : IntKind} {S : St} {avs : List AV} {l : List Int} (h : EInts k S avs l) : ∃ v, avs = [v] ∧ IsSl k S v l := by
  obtain ⟨v, h1, h2⟩ := SlOf.is h
  exact ⟨v, h1, isSl_ints h2⟩
theorem node_is {S : St} {e : List AV} {a : Int × Int × Int × List Int × List Int × List Int × Unit} (h : ENode S e a) : NodeE S e (nodeT a) := by
  obtain ⟨_, _, rfl, ⟨rfl, _⟩, _, _, rfl, ⟨rfl, _⟩, _, _, rfl, ⟨rfl, _⟩, _, _, rfl, h1, _, _, rfl, h2, _, _, rfl, h3, rfl⟩ := h
  obtain ⟨v1, rfl, i1⟩ := ints_is h1
  obtain ⟨v2, rfl, i2⟩ := ints_is h2
  obtain ⟨v3, rfl, i3⟩ := ints_is h3
  exact ⟨v1, v2, v3, rfl, i1, i2, i3⟩
theorem info_is {S : St} {e : List AV} {a : Int × Int × Unit} (h : EInfo S e a) : InfoE S e (infoT a) := by
  obtain ⟨_, _, rfl, ⟨rfl, _⟩, _, _, rfl, ⟨rfl, _⟩, rfl⟩ := h
  rfl
theorem game_is {S : St} {avs : List AV} {a : Int × List (Int × Int × Int × List Int × List Int × List Int × Unit) × List (Int × Int × Unit) × Unit} (h : EGame S avs a) : ∃ nv iv, ∃ g : PGame, avs = [.int .i64 g.players, nv, iv] ∧ IsSlG 6 NodeE S nv g.nodes ∧ IsSlG 2 InfoE S iv g.infos := by
  obtain ⟨_, _, rfl, ⟨rfl, _⟩, _, _, rfl, h1, _, _, rfl, h2, rfl⟩ := h
  obtain ⟨v1, rfl, i1⟩ := SlOf.is h1
  obtain ⟨v2, rfl, i2⟩ := SlOf.is h2
  exact ⟨v1, v2, ⟨a.1, a.2.1.map nodeT, a.2.2.1.map infoT⟩, rfl, IsSlG.conv (fun e x h => node_is h) i1, IsSlG.conv (fun e x h => info_is h) i2⟩
section
variable {P : Program} {σ : Env} {S : St} {w : World}
/-- a value of several cells -/
theorem agg_of {v : Value} {n : Nat} (hn : n ≠ 1) (hl : v.cells.toList.length = n) : v = .agg ⟨v.cells.toList⟩ := by
  cases v with
  | agg cs => rfl
  | _ => exact absurd (by simpa [Value.cells] using hl.symm) hn
/-- a game as an argument -/
theorem arg_game {t : TypeId} {H : Type} {enc : TypeId × Value → H} {base : Nat} {spare : Nat → Bool} {held : Bool} {fuel : Nat} {v : Value} {x : DataW H × List MemPlace} (hR : Rep P σ S w) (hn : NoOwn S) (hf : Fresh S) (hG : P.globals.size ≤ S.nx) (hL : Lays P t EGame) (h : DataW.trod enc P w base spare held fuel t v.cells.toList = some x) :
    ∃ σ' S' nv iv, ∃ g : PGame, Added P σ S w σ' S' ∧ Rv P σ' (.agg [.int .i64 g.players, nv, iv]) v ∧ IsSlG 6 NodeE S' nv g.nodes ∧ IsSlG 2 InfoE S' iv g.infos ∧ S.nx ≤ S'.nx := by
  obtain ⟨σ', S', avs, a, hA, hr, h1, hE, hnx⟩ := hL H enc σ S w base spare held fuel _ x hR hn hf hG h
  obtain ⟨nv, iv, g, rfl, i1, i2⟩ := game_is hE
  refine ⟨σ', S', nv, iv, g, hA, ?_, i1, i2, hnx⟩
  have hl := hr.length
  rw [agg_of (v := v) (n := 3) (by decide) (by rw [hl]; rfl)]
  simp only [Rv]
  exact ⟨_, rfl, hr, h1⟩
/-- a list of numbers as an argument -/
theorem arg_list {t : TypeId} {k : IntKind} {H : Type} {enc : TypeId × Value → H} {base : Nat} {spare : Nat → Bool} {held : Bool} {fuel : Nat} {v : Value} {x : DataW H × List MemPlace} (hR : Rep P σ S w) (hn : NoOwn S) (hf : Fresh S) (hG : P.globals.size ≤ S.nx) (hL : Lays P t (EInts k)) (h : DataW.trod enc P w base spare held fuel t v.cells.toList = some x) (hv : v.cells.toList = [v]) :
    ∃ σ' S' a l, Added P σ S w σ' S' ∧ Rv P σ' a v ∧ IsSl k S' a l ∧ S.nx ≤ S'.nx := by
  obtain ⟨σ', S', avs, l, hA, hr, h1, hE, hnx⟩ := hL H enc σ S w base spare held fuel _ x hR hn hf hG h
  obtain ⟨a, rfl, i1⟩ := ints_is hE
  rw [hv] at hr
  obtain ⟨_, _, h2, h3, h4⟩ := Rvs_cons.1 hr
  cases h2
  exact ⟨σ', S', a, l, hA, h3, i1, hnx⟩
theorem lays_ints {t e : TypeId} {k : IntKind} (ht : P.underlying t = some (.slice e)) (he : P.underlying e = some (.int k)) (hc : P.cellsOf e = 1) : Lays P t (EInts k) := lays_slice ht hc (by decide) (lays_int he) firm_int
/-- types of a game -/
theorem lays_game {tg tn tl ti tk ts e : TypeId} {fg fn fi : Array Field} (hg : P.underlying tg = some (.struct fg)) (hn : P.underlying tn = some (.struct fn)) (hi : P.underlying ti = some (.struct fi)) (hl : P.underlying tl = some (.slice tn)) (hk : P.underlying tk = some (.slice ti)) (hs : P.underlying ts = some (.slice e)) (he : P.underlying e = some (.int .i64))
    (cn : P.cellsOf tn = 6) (ci : P.cellsOf ti = 2) (ce : P.cellsOf e = 1) (cs : P.cellsOf ts = 1) (cl : P.cellsOf tl = 1) (ck : P.cellsOf tk = 1) (cg : P.cellsOf tg = 3)
    (tsg : fg.toList.map (·.type) = [e, tl, tk]) (tsn : fn.toList.map (·.type) = [e, e, e, ts, ts, ts]) (tsi : fi.toList.map (·.type) = [e, e])
    (og : ∀ (i : Nat) (f : Field), fg[i]? = some f → f.offset = i) (on : ∀ (i : Nat) (f : Field), fn[i]? = some f → f.offset = i) (oi : ∀ (i : Nat) (f : Field), fi[i]? = some f → f.offset = i) : Lays P tg EGame := by
  have Li := lays_int he
  have Ls := lays_ints hs he ce
  have Ln : Lays P tn ENode := by
    refine lays_struct hn tsn (fun i f h => ?_) (by simp [cn, ce, cs]) (laysF_cons (E := IntE .i64) (R := EN5) Li firm_int (laysF_cons (E := IntE .i64) (R := EN4) Li firm_int (laysF_cons (E := IntE .i64) (R := EN3) Li firm_int (laysF_cons (E := EInts .i64) (R := EN2) Ls firm_ints (laysF_cons (E := EInts .i64) (R := EN1) Ls firm_ints (laysF_cons (E := EInts .i64) (R := NoE) Ls firm_ints laysF_nil))))))
    rw [on i f h]
    have hlt : i < 6 := by
      have := (Array.getElem?_eq_some_iff.1 h).1
      have h6 := congrArg List.length tsn
      simp only [List.length_map, Array.length_toList, List.length_cons, List.length_nil] at h6
      omega
    match i, hlt with
    | 0, _ => simp
    | 1, _ => simp [ce]
    | 2, _ => simp [ce]
    | 3, _ => simp [ce]
    | 4, _ => simp [ce, cs]
    | 5, _ => simp [ce, cs]
  have Lin : Lays P ti EInfo := by
    refine lays_struct hi tsi (fun i f h => ?_) (by simp [ci, ce]) (laysF_cons (E := IntE .i64) (R := EI1) Li firm_int (laysF_cons (E := IntE .i64) (R := NoE) Li firm_int laysF_nil))
    rw [oi i f h]
    have hlt : i < 2 := by
      have := (Array.getElem?_eq_some_iff.1 h).1
      have h6 := congrArg List.length tsi
      simp only [List.length_map, Array.length_toList, List.length_cons, List.length_nil] at h6
      omega
    match i, hlt with
    | 0, _ => simp
    | 1, _ => simp [ce]
  have Lsn : Lays P tl (SlOf 6 ENode) := lays_slice hl cn (by decide) Ln firm_enode
  have Lsi : Lays P tk (SlOf 2 EInfo) := lays_slice hk ci (by decide) Lin firm_einfo
  refine lays_struct hg tsg (fun i f h => ?_) (by simp [cg, ce, cl, ck]) (laysF_cons (E := IntE .i64) (R := EG2) Li firm_int (laysF_cons (E := SlOf 6 ENode) (R := EG1) Lsn (Ev.firm_sl (E := ENode) firm_enode) (laysF_cons (E := SlOf 2 EInfo) (R := NoE) Lsi (Ev.firm_sl (E := EInfo) firm_einfo) laysF_nil)))
  rw [og i f h]
  have hlt : i < 3 := by
    have := (Array.getElem?_eq_some_iff.1 h).1
    have h6 := congrArg List.length tsg
    simp only [List.length_map, Array.length_toList, List.length_cons, List.length_nil] at h6
    omega
  match i, hlt with
  | 0, _ => simp
  | 1, _ => simp [ce]
  | 2, _ => simp [ce, cl]
end
end Go.Ev.Gl
