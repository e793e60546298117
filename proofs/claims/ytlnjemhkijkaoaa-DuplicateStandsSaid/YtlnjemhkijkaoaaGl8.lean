/- Contracts (8): rational numbers, the statements' tools, the law. -/
import Derived.Test.YtlnjemhkijkaoaaGl7
open Nat (reduceEqDiff reduceAdd)
set_option maxHeartbeats 4000000
set_option linter.unusedSimpArgs false
set_option linter.unusedVariables false
namespace Go.Ev.Gl
variable {fns : T AFn}

/-! ## Small functions: lists alike, sums -/
def AlkI (S : St) (a b : AV) (l m : List Int) (k : Nat) (A : Act') (X : St) : Prop := A.inr = false ∧ Same S X ∧ ∃ i, i + k = l.length ∧ l.take i = m.take i ∧ tmpV 0 A.F = a ∧ tmpV 1 A.F = b ∧ tmpV 5 A.F = .int .i64 (i : Int)
theorem alikeW_spec {S : St} {a b : AV} {l m : List Int} (H : Has fns) (ha : IsSl .i64 S a l) (hb : IsSl .i64 S b m) (hl : l.length ≤ 140737488355328) : wpf fns (.fn 18 [] []) [a, b] S fun r S' => r = .bool (decide (l = m)) ∧ Same S S' := by
  refine wpf_fn H.f18 (by simp) ?_
  simp only [↓stU, stD, reduceEqDiff, ↓reduceIte, reduceAdd]
  refine wsr ?_
  simp only [↓stU, stD, reduceEqDiff, ↓reduceIte, reduceAdd]
  refine wss ?_
  simp only [↓stU, stD, reduceEqDiff, ↓reduceIte, reduceAdd, ha.len, hb.len, Int.ofNat_eq_natCast]
  by_cases hlm : l.length = m.length
  rotate_left
  · rw [decide_eq_false (show ¬ l = m from fun e => hlm (by rw [e]))]
    refine wpc_yes (by simp only [↓stU, stD, reduceEqDiff, ↓reduceIte, reduceAdd, decide_eq_true (show ((l.length : Nat) : Int) ≠ ((m.length : Nat) : Int) by omega)]) ?_
    refine wsr ?_
    simp only [↓stU, stD, reduceEqDiff, ↓reduceIte, reduceAdd]
    refine wpc_ret ?_
    simp only [↓stU, stD, reduceEqDiff, ↓reduceIte, reduceAdd]
    exact Same.refl _
  refine wpc_non (by simp only [↓stU, stD, reduceEqDiff, ↓reduceIte, reduceAdd, decide_eq_false (show ¬ ((l.length : Nat) : Int) ≠ ((m.length : Nat) : Int) by omega)]) (wpc_skip ?_)
  try simp only [↓stU, stD, reduceEqDiff, ↓reduceIte, reduceAdd]
  refine wpc_seq (wpc_mono (Q := fun o A' X => (o = .normal ∧ AlkI S a b l m 0 A' X) ∨ (o = .ret ∧ Same S X ∧ l ≠ m ∧ tmpV 4 A'.F = .bool false)) (wpc_seq (wpc_reg ?_)) ?_)
  · simp only [↓stU, stD, reduceEqDiff, ↓reduceIte, reduceAdd]
    refine wpc_block (wpc_loop (AlkI S a b l m) ?_ l.length _ _ ⟨rfl, Same.refl _, 0, by omega, rfl, by simp only [↓stU, stD, reduceEqDiff, ↓reduceIte, reduceAdd], by simp only [↓stU, stD, reduceEqDiff, ↓reduceIte, reduceAdd], by simp only [↓stU, stD, reduceEqDiff, ↓reduceIte, reduceAdd]⟩)
    rintro k ⟨F, inr⟩ X ⟨q0, hX, i, hik, he, p0, p1, p5⟩
    simp only at q0 p0 p1 p5
    subst q0
    refine wss ?_
    simp only [↓stU, stD, reduceEqDiff, ↓reduceIte, reduceAdd, p0, p5, ha.len, Int.ofNat_eq_natCast]
    by_cases hlt : i < l.length
    · refine wpc_yes (by simp only [↓stU, stD, reduceEqDiff, ↓reduceIte, reduceAdd, decide_eq_true (show (i : Int) < ((l.length : Nat) : Int) by omega)]) (wpc_skip ?_)
      try simp only [↓stU, stD, reduceEqDiff, ↓reduceIte, reduceAdd]
      have hltm : i < m.length := by omega
      have ia := (ha.same hX).iaddr hlt
      have la := (ha.same hX).ld hlt
      have ib := (hb.same hX).iaddr hltm
      have lb := (hb.same hX).ld hltm
      have w1 : IntKind.i64.wrap ((i : Int) + 1) = ((i + 1 : Nat) : Int) := by rw [wrap_i64 (by omega) (by omega)]; omega
      refine wpc_seq (wpc_block (wpc_seq (wpc_drq ?_)))
      simp only [↓stU, stD, reduceEqDiff, ↓reduceIte, reduceAdd, p0, p1, p5, natOf_cast, ia, ib, la, lb]
      have el : l.getD i 0 = l[i] := by rw [List.getD_eq_getElem?_getD, List.getElem?_eq_getElem hlt]; rfl
      have em : m.getD i 0 = m[i] := by rw [List.getD_eq_getElem?_getD, List.getElem?_eq_getElem hltm]; rfl
      by_cases hx : l.getD i 0 = m.getD i 0
      · refine wpc_non (by simp only [↓stU, stD, reduceEqDiff, ↓reduceIte, reduceAdd, decide_eq_false (show ¬ l.getD i 0 ≠ m.getD i 0 from fun h => h hx)]) (wpc_skip ?_)
        try simp only [↓stU, stD, reduceEqDiff, ↓reduceIte, reduceAdd]
        refine wpc_reg ?_
        simp only [↓stU, stD, reduceEqDiff, ↓reduceIte, reduceAdd, p5, w1]
        refine ⟨k - 1, by omega, rfl, hX.trans (Same.nx _ _), i + 1, by omega, ?_, by simp only [↓stU, stD, reduceEqDiff, ↓reduceIte, reduceAdd, p0], by simp only [↓stU, stD, reduceEqDiff, ↓reduceIte, reduceAdd, p1], by simp only [↓stU, stD, reduceEqDiff, ↓reduceIte, reduceAdd]⟩
        rw [List.take_add_one, List.take_add_one, he, List.getElem?_eq_getElem hlt, List.getElem?_eq_getElem hltm, ← el, ← em, hx]
      · refine wpc_yes (by simp only [↓stU, stD, reduceEqDiff, ↓reduceIte, reduceAdd, decide_eq_true (show l.getD i 0 ≠ m.getD i 0 from hx)]) ?_
        refine wsr ?_
        simp only [↓stU, stD, reduceEqDiff, ↓reduceIte, reduceAdd]
        refine wpc_ret ?_
        simp only [↓stU, stD, reduceEqDiff, ↓reduceIte, reduceAdd]
        exact .inr ⟨hX.trans (Same.nx _ _), fun e => hx (by rw [e])⟩
    · refine wpc_non (by simp only [↓stU, stD, reduceEqDiff, ↓reduceIte, reduceAdd, decide_eq_false (show ¬ (i : Int) < ((l.length : Nat) : Int) by omega)]) (wpc_exit ?_)
      simp only [↓stU, stD, reduceEqDiff, ↓reduceIte, reduceAdd]
      have hk0 : k = 0 := by omega
      subst hk0
      exact .inl ⟨rfl, hX, i, hik, he, by simp only [↓stU, stD, reduceEqDiff, ↓reduceIte, reduceAdd, p0], by simp only [↓stU, stD, reduceEqDiff, ↓reduceIte, reduceAdd, p1], by simp only [↓stU, stD, reduceEqDiff, ↓reduceIte, reduceAdd, p5]⟩
  rintro o ⟨F, inr⟩ X (⟨rfl, q0, hX, i, hik, he, p0, p1, p5⟩ | ⟨rfl, hX, hne, p4⟩)
  rotate_left
  · simp only at p4
    simp only [↓stU, stD, reduceEqDiff, ↓reduceIte, reduceAdd, p4]
    rw [decide_eq_false hne]
    exact ⟨rfl, hX⟩
  simp only at q0
  subst q0
  rw [List.take_of_length_le (by omega), List.take_of_length_le (by omega)] at he
  rw [decide_eq_true he]
  try simp only [↓stU, stD, reduceEqDiff, ↓reduceIte, reduceAdd]
  refine wsr ?_
  simp only [↓stU, stD, reduceEqDiff, ↓reduceIte, reduceAdd]
  refine wpc_ret ?_
  simp only [↓stU, stD, reduceEqDiff, ↓reduceIte, reduceAdd]
  exact hX
theorem alikeI_spec {S : St} {a b : AV} {l m : List Int} (H : Has fns) (ha : IsSl .i64 S a l) (hb : IsSl .i64 S b m) (hl : l.length ≤ 10000000) : wpf fns (.fn 18 [] []) [a, b] S fun r S' => r = .bool (decide (l = m)) ∧ Same S S' :=
  alikeW_spec H ha hb (by omega)
def AlkLI (S : St) (a b : AV) (l m : List (List Int)) (k : Nat) (A : Act') (X : St) : Prop := A.inr = false ∧ Same S X ∧ ∃ i, i + k = l.length ∧ l.take i = m.take i ∧ tmpV 0 A.F = a ∧ tmpV 1 A.F = b ∧ tmpV 5 A.F = .int .i64 (i : Int)
theorem alikeL_spec {S : St} {a b : AV} {l m : List (List Int)} (H : Has fns) (ha : IsSlG 1 SlE S a l) (hb : IsSlG 1 SlE S b m) (hl : l.length ≤ 10000000) (hll : ∀ x ∈ l, x.length ≤ 10000000) : wpf fns (.fn 8 [] []) [a, b] S fun r S' => r = .bool (decide (l = m)) ∧ Same S S' := by
  refine wpf_fn H.f8 (by simp) ?_
  simp only [↓stU, stD, reduceEqDiff, ↓reduceIte, reduceAdd]
  refine wsr ?_
  simp only [↓stU, stD, reduceEqDiff, ↓reduceIte, reduceAdd]
  refine wss ?_
  simp only [↓stU, stD, reduceEqDiff, ↓reduceIte, reduceAdd, ha.len, hb.len, Int.ofNat_eq_natCast]
  by_cases hlm : l.length = m.length
  rotate_left
  · rw [decide_eq_false (show ¬ l = m from fun e => hlm (by rw [e]))]
    refine wpc_yes (by simp only [↓stU, stD, reduceEqDiff, ↓reduceIte, reduceAdd, decide_eq_true (show ((l.length : Nat) : Int) ≠ ((m.length : Nat) : Int) by omega)]) ?_
    refine wsr ?_
    simp only [↓stU, stD, reduceEqDiff, ↓reduceIte, reduceAdd]
    refine wpc_ret ?_
    simp only [↓stU, stD, reduceEqDiff, ↓reduceIte, reduceAdd]
    exact Same.refl _
  refine wpc_non (by simp only [↓stU, stD, reduceEqDiff, ↓reduceIte, reduceAdd, decide_eq_false (show ¬ ((l.length : Nat) : Int) ≠ ((m.length : Nat) : Int) by omega)]) (wpc_skip ?_)
  try simp only [↓stU, stD, reduceEqDiff, ↓reduceIte, reduceAdd]
  refine wpc_seq (wpc_mono (Q := fun o A' X => (o = .normal ∧ AlkLI S a b l m 0 A' X) ∨ (o = .ret ∧ Same S X ∧ l ≠ m ∧ tmpV 4 A'.F = .bool false)) (wpc_seq (wpc_reg ?_)) ?_)
  · simp only [↓stU, stD, reduceEqDiff, ↓reduceIte, reduceAdd]
    refine wpc_block (wpc_loop (AlkLI S a b l m) ?_ l.length _ _ ⟨rfl, Same.refl _, 0, by omega, rfl, by simp only [↓stU, stD, reduceEqDiff, ↓reduceIte, reduceAdd], by simp only [↓stU, stD, reduceEqDiff, ↓reduceIte, reduceAdd], by simp only [↓stU, stD, reduceEqDiff, ↓reduceIte, reduceAdd]⟩)
    rintro k ⟨F, inr⟩ X ⟨q0, hX, i, hik, he, p0, p1, p5⟩
    simp only at q0 p0 p1 p5
    subst q0
    refine wss ?_
    simp only [↓stU, stD, reduceEqDiff, ↓reduceIte, reduceAdd, p0, p5, ha.len, Int.ofNat_eq_natCast]
    by_cases hlt : i < l.length
    · refine wpc_yes (by simp only [↓stU, stD, reduceEqDiff, ↓reduceIte, reduceAdd, decide_eq_true (show (i : Int) < ((l.length : Nat) : Int) by omega)]) (wpc_skip ?_)
      try simp only [↓stU, stD, reduceEqDiff, ↓reduceIte, reduceAdd]
      have hltm : i < m.length := by omega
      obtain ⟨e1, b1, q1, ia, lb1, _, ⟨a1, rfl, h1⟩, _, hf1⟩ := IsSlG.at (IsSlG.same (E := SlE) firm_sl ha hX) (by decide) (List.getElem?_eq_getElem hlt)
      obtain ⟨e2, b2, q2, ib, lb2, _, ⟨a2, rfl, h2⟩, _, hf2⟩ := IsSlG.at (IsSlG.same (E := SlE) firm_sl hb hX) (by decide) (List.getElem?_eq_getElem hltm)
      have la := hf1 0 a1 rfl
      have lb := hf2 0 a2 rfl
      rw [Nat.add_zero] at la lb
      have sa1 := IsSl.self h1
      have sa2 := IsSl.self h2
      have w1 : IntKind.i64.wrap ((i : Int) + 1) = ((i + 1 : Nat) : Int) := by rw [wrap_i64 (by omega) (by omega)]; omega
      refine wpc_seq (wpc_block (wpc_seq (wpc_drd1 (fun _ => False) ?_)))
      intro X1 x1
      simp only [↓sU, sD, reduceEqDiff, ↓reduceIte, reduceAdd, p0, p1, p5, natOf_cast, ia, ib, la, lb, sa1, sa2, lb1, lb2, not_false_eq_true]
      refine runD_call0 rfl ?_
      simp only [↓sU, sD, reduceEqDiff, ↓reduceIte, reduceAdd]
      refine wpf_mono (alikeI_spec H (h1.same x1) (h2.same x1) (hll _ (List.getElem_mem hlt))) ?_
      rintro _ Y ⟨rfl, hY⟩
      refine ⟨hY, ?_⟩
      have hSY := hX.trans (x1.trans hY)
      try simp only [↓sU, sD, reduceEqDiff, ↓reduceIte, reduceAdd, un_not]
      by_cases hx : l[i] = m[i]
      · refine wpc_non (by simp only [↓stU, stD, reduceEqDiff, ↓reduceIte, reduceAdd, decide_eq_true hx, Bool.not_true]) (wpc_skip ?_)
        try simp only [↓stU, stD, reduceEqDiff, ↓reduceIte, reduceAdd]
        refine wpc_reg ?_
        simp only [↓stU, stD, reduceEqDiff, ↓reduceIte, reduceAdd, p5, w1]
        refine ⟨k - 1, by omega, rfl, hSY, i + 1, by omega, ?_, by simp only [↓stU, stD, reduceEqDiff, ↓reduceIte, reduceAdd, p0], by simp only [↓stU, stD, reduceEqDiff, ↓reduceIte, reduceAdd, p1], by simp only [↓stU, stD, reduceEqDiff, ↓reduceIte, reduceAdd]⟩
        rw [List.take_add_one, List.take_add_one, he, List.getElem?_eq_getElem hlt, List.getElem?_eq_getElem hltm, hx]
      · refine wpc_yes (by simp only [↓stU, stD, reduceEqDiff, ↓reduceIte, reduceAdd, decide_eq_false hx, Bool.not_false]) ?_
        refine wsr ?_
        simp only [↓stU, stD, reduceEqDiff, ↓reduceIte, reduceAdd]
        refine wpc_ret ?_
        simp only [↓stU, stD, reduceEqDiff, ↓reduceIte, reduceAdd]
        exact .inr ⟨hSY, fun e => hx (by subst e; rfl)⟩
    · refine wpc_non (by simp only [↓stU, stD, reduceEqDiff, ↓reduceIte, reduceAdd, decide_eq_false (show ¬ (i : Int) < ((l.length : Nat) : Int) by omega)]) (wpc_exit ?_)
      simp only [↓stU, stD, reduceEqDiff, ↓reduceIte, reduceAdd]
      have hk0 : k = 0 := by omega
      subst hk0
      exact .inl ⟨rfl, hX, i, hik, he, by simp only [↓stU, stD, reduceEqDiff, ↓reduceIte, reduceAdd, p0], by simp only [↓stU, stD, reduceEqDiff, ↓reduceIte, reduceAdd, p1], by simp only [↓stU, stD, reduceEqDiff, ↓reduceIte, reduceAdd, p5]⟩
  rintro o ⟨F, inr⟩ X (⟨rfl, q0, hX, i, hik, he, p0, p1, p5⟩ | ⟨rfl, hX, hne, p4⟩)
  rotate_left
  · simp only at p4
    simp only [↓stU, stD, reduceEqDiff, ↓reduceIte, reduceAdd, p4]
    rw [decide_eq_false hne]
    exact ⟨rfl, hX⟩
  simp only at q0
  subst q0
  rw [List.take_of_length_le (by omega), List.take_of_length_le (by omega)] at he
  rw [decide_eq_true he]
  try simp only [↓stU, stD, reduceEqDiff, ↓reduceIte, reduceAdd]
  refine wsr ?_
  simp only [↓stU, stD, reduceEqDiff, ↓reduceIte, reduceAdd]
  refine wpc_ret ?_
  simp only [↓stU, stD, reduceEqDiff, ↓reduceIte, reduceAdd]
  exact hX
end Go.Ev.Gl

namespace Go.Ev.Gl
variable {fns : T AFn}

/-! ## Rows of one's own; maps -/
end Go.Ev.Gl

namespace Go.Ev.Gl
variable {fns : T AFn}

/-! ## The place of a child -/
end Go.Ev.Gl

namespace Go.Ev.Gl
variable {fns : T AFn}

/-! ## Regions of plain operations with one store behind them -/
def LdOk (h : T AB) (K : Nat) (l : Loaded) : Prop := sameO l.v (evQ l.q l.F h) = true ∧ l.i < K ∧ Nat.testBit l.mask K = false
theorem runQ_app {h : T AB} {base K : Nat} {rest : List AO} {Q : DS → Prop} : ∀ {pre : List AO} {i : Nat} {F : Fr} {S : St} {ls : List Loaded}, S.h = h → i + pre.length = K → (∀ o ∈ pre, Nat.testBit o.mask K = false) → (∀ l ∈ ls, LdOk h K l) →
    runQ pre F h (fun F' => ∀ ls', (∀ l ∈ ls', LdOk h K l) → wpd fns rest K base ⟨F', S, [], [], ls'⟩ Q) → wpd fns (pre ++ rest) i base ⟨F, S, [], [], ls⟩ Q
  | [], i, F, S, ls, h1, h2, _, h4, hr => by
    simp only [List.length_nil, Nat.add_zero] at h2
    subst h2
    exact hr ls h4
  | ⟨d, .q q, g, m⟩ :: l, i, F, S, ls, h1, h2, h3, h4, hr => by
    simp only [runQ] at hr
    have h2' : i + 1 + l.length = K := by rw [List.length_cons] at h2; omega
    have h3' : ∀ o ∈ l, Nat.testBit o.mask K = false := fun o ho => h3 o (List.mem_cons_of_mem _ ho)
    have hm : Nat.testBit m K = false := h3 _ (List.mem_cons_self ..)
    have go : ∀ (_ : onSome (evQ q F h) fun v => (isLoad q = true → sameV v v = true) ∧ runQ l (putF d F v) h (fun F' => ∀ ls', (∀ l ∈ ls', LdOk h K l) → wpd fns rest K base ⟨F', S, [], [], ls'⟩ Q)), wpd fns (⟨d, .q q, none, m⟩ :: (l ++ rest)) i base ⟨F, S, [], [], ls⟩ Q := by
      rintro ⟨v, hv, hs, hr⟩
      rw [wpd_qE]
      subst h1
      refine ⟨v, hv, runQ_app rfl h2' h3' ?_ hr⟩
      cases hq : isLoad q with
      | false => exact h4
      | true =>
        rw [bsel_true]
        intro l' hl'
        rcases List.mem_cons.1 hl' with rfl | hl'
        · refine ⟨?_, by show i < K; omega, hm⟩
          show sameO v (evQ q F S.h) = true
          rw [hv, sameO_some]
          exact hs hq
        · exact h4 _ hl'
    cases g with
    | none => exact go (by rw [if_pos (show wants none F = true from rfl)] at hr; exact hr)
    | some g =>
      obtain ⟨s, b⟩ := g
      by_cases hw : wants (some (s, b)) F = true
      · rw [if_pos hw] at hr
        obtain ⟨n, D', e1, e2⟩ := go hr
        refine ⟨n, D', ?_, e2⟩
        have : evD ⟨d, .q q, some (s, b), m⟩ i base (ev fns n).call ⟨F, S, [], [], ls⟩ = evD ⟨d, .q q, none, m⟩ i base (ev fns n).call ⟨F, S, [], [], ls⟩ := by
          show bsel (wants (some (s, b)) F) _ _ = bsel true _ _
          rw [hw]; rfl
        show osel (evD ⟨d, .q q, some (s, b), m⟩ i base (ev fns n).call ⟨F, S, [], [], ls⟩) _ = _
        rw [this]; exact e1
      · rw [if_neg hw] at hr
        obtain ⟨n, D', e1, e2⟩ := runQ_app (i := i + 1) (F := putF d F .undef) (ls := ls) h1 h2' h3' h4 hr
        refine ⟨n, D', ?_, e2⟩
        have : evD ⟨d, .q q, some (s, b), m⟩ i base (ev fns n).call ⟨F, S, [], [], ls⟩ = some ⟨putF d F .undef, S, [], [], ls⟩ := by
          show bsel (wants (some (s, b)) F) _ _ = _
          rw [show wants (some (s, b)) F = false by simpa using hw]; rfl
        show osel (evD ⟨d, .q q, some (s, b), m⟩ i base (ev fns n).call ⟨F, S, [], [], ls⟩) _ = _
        rw [this]; exact e1
  | ⟨d, .a a, g, m⟩ :: l, i, F, S, ls, h1, h2, h3, h4, hr => by cases hr
  | ⟨d, .x a, g, m⟩ :: l, i, F, S, ls, h1, h2, h3, h4, hr => by cases hr
/-- plain operations, then one store behind them all -/
theorem wpc_drs {ops pre : List AO} {K m n : Nat} {x v : Opd} {A : Act'} {S : St} {Q : Out → Act' → St → Prop} (he : ops = pre ++ [⟨none, .x (.st n x v), none, m⟩]) (hK : pre.length = K) (h3 : ∀ o ∈ pre, Nat.testBit o.mask K = false) (hm : ∀ i, i < K → Nat.testBit m i = true)
    (h : runQ pre A.F S.h fun F' => ∃ S1, osel (v.val F').cells (fun cs => xStV (x.val F') n cs ⟨S.h, S.nx + (K + 1)⟩) = some (.undef, S1) ∧ Q .normal ⟨F', A.inr⟩ S1) : wpc fns (.drw ops) A S Q := by
  subst he
  have hlen : (pre ++ [(⟨none, .x (.st n x v), none, m⟩ : AO)]).length = K + 1 := by simp [hK]
  refine wpc_drw ?_
  rw [hlen]
  refine runQ_app (h := S.h) (K := K) (pre := pre) (i := 0) rfl (by omega) h3 (fun l hl => by cases hl) ?_
  have mono : ∀ {P P' : Fr → Prop}, (∀ F, P F → P' F) → ∀ (l : List AO) (F : Fr), runQ l F S.h P → runQ l F S.h P' := fun {P P'} hP l => by
    induction l with
    | nil => intro F h; exact hP F h
    | cons o l ih =>
      intro F h
      obtain ⟨d, op, g, mm⟩ := o
      cases op with
      | q q =>
        simp only [runQ] at h ⊢
        split at h
        · rename_i hw
          rw [if_pos hw]
          obtain ⟨w, hw1, hw2, hw3⟩ := h
          exact ⟨w, hw1, hw2, ih _ hw3⟩
        · rename_i hw
          rw [if_neg hw]
          exact ih _ h
      | a a => cases h
      | x a => cases h
  refine mono ?_ pre A.F h
  rintro F' ⟨S1, e1, hQ⟩ ls hls
  refine wpd_x (v := .undef) (S1 := S1) rfl (fun call => by rw [evX_st]; exact e1) ?_
  rw [wpd_nil]
  refine ⟨?_, ?_⟩
  · simp only [List.reverse_cons, List.reverse_nil, List.nil_append]
    refine loadsOk_of fun l hl => ?_
    obtain ⟨h1, h2, h4⟩ := hls l hl
    unfold loadGo
    rw [h4, bsel_false, h1, bsel_true, hm _ h2, bsel_true]
  · exact hQ
end Go.Ev.Gl

namespace Go.Ev.Gl
variable {fns : T AFn}

/-! ## What a walk says about parents and children, plain -/
end Go.Ev.Gl

namespace Go.Ev.Gl
variable {fns : T AFn}

/-! ## The scene of a game -/
theorem wpc_drs' {ops pre : List AO} {K m n : Nat} {x v : Opd} {A : Act'} {S : St} {Q : Out → Act' → St → Prop} (he : ops = pre ++ [⟨none, .x (.st n x v), none, m⟩]) (hK : pre.length = K) (h3 : (pre.all fun o => !Nat.testBit o.mask K) = true) (hm : ((List.range K).all fun i => Nat.testBit m i) = true)
    (h : runQ pre A.F S.h fun F' => ∃ S1, osel (v.val F').cells (fun cs => xStV (x.val F') n cs ⟨S.h, S.nx + (K + 1)⟩) = some (.undef, S1) ∧ Q .normal ⟨F', A.inr⟩ S1) : wpc fns (.drw ops) A S Q := by
  refine wpc_drs he hK (fun o ho => ?_) (fun i hi => ?_) h
  · have := List.all_eq_true.1 h3 o ho
    simpa using this
  · exact List.all_eq_true.1 hm i (List.mem_range.2 hi)
end Go.Ev.Gl

namespace Go.Ev.Gl
variable {fns : T AFn}

/-! ## The reference's check of a map (given its images) -/
end Go.Ev.Gl

namespace Go.Ev.Gl
variable {fns : T AFn}

/-! ## The program's check of a map (given its image) -/
end Go.Ev.Gl

namespace Go.Ev.Gl
variable {fns : T AFn}

/-! ## Places of children, plain -/
end Go.Ev.Gl
