/- Contracts (12): rational numbers, the statements' tools, the law. -/
import Derived.Test.YtoojnpjgnnpllaaGl11
open Nat (reduceEqDiff)
set_option maxHeartbeats 4000000
set_option linter.unusedSimpArgs false
set_option linter.unusedVariables false
namespace Go.Ev.Gl
variable {fns : T AFn}

/-! ## Choices that fit a game, of both sides -/
def okC (g : PGame) (l : List Int) (i : Nat) : Prop := 0 ≤ l.getD i 0 ∧ l.getD i 0 < (infoAt g (i : Int)).actions
instance okCDec (g : PGame) (l : List Int) (i : Nat) : Decidable (okC g l i) := by unfold okC; exact inferInstance
def chsE (g : PGame) (l : List Int) : Int := if l.length ≠ g.infos.length then 10 else if ∀ i, i < l.length → okC g l i then 0 else 2
noncomputable def chsN (g : PGame) (l : List Int) (pr : Nat → Nat) : Int := if formE g ≠ 0 then 0 else if chsE g l ≠ 0 then 0 else sizeN g pr
noncomputable def chsR (g : PGame) (l : List Int) (pr : Nat → Nat) : Int := if formE g ≠ 0 then formE g else if chsE g l ≠ 0 then chsE g l else sizeR g pr
theorem chs_bad {g : PGame} {l : List Int} {pr : Nat → Nat} {e : Int} (h0 : formE g = 0) (h : chsE g l = e) (he : e ≠ 0) : chsN g l pr = 0 ∧ chsR g l pr = e := by
  subst h
  unfold chsN chsR
  simp only [h0, he, ne_eq, not_true_eq_false, not_false_eq_true, if_false, if_true, and_self]
theorem chs_ok {g : PGame} {l : List Int} {pr : Nat → Nat} (h0 : formE g = 0) (h : chsE g l = 0) : chsN g l pr = sizeN g pr ∧ chsR g l pr = sizeR g pr := by
  unfold chsN chsR
  simp only [h0, h, ne_eq, not_true_eq_false, if_false, and_self]
theorem infoAt_some {g : PGame} {i : Nat} (hi : i < g.infos.length) : g.infos[i]? = some (infoAt g (i : Int)) := by
  unfold infoAt
  rw [Int.toNat_natCast, List.getD_eq_getElem?_getD, List.getElem?_eq_getElem hi]
  rfl
theorem chsE_len {g : PGame} {l : List Int} (h : l.length ≠ g.infos.length) : chsE g l = 10 := by unfold chsE; rw [if_pos h]
theorem chsE_ok {g : PGame} {l : List Int} (h : l.length = g.infos.length) (ha : ∀ i, i < l.length → okC g l i) : chsE g l = 0 := by unfold chsE; rw [if_neg (fun h' => h' h), if_pos ha]
theorem chsE_bad {g : PGame} {l : List Int} {i : Nat} (h : l.length = g.infos.length) (hi : i < l.length) (ha : ¬ okC g l i) : chsE g l = 2 := by unfold chsE; rw [if_neg (fun h' => h' h), if_neg (fun h' => ha (h' i hi))]
theorem chsE_zero {g : PGame} {l : List Int} (h : chsE g l = 0) : l.length = g.infos.length ∧ ∀ i, i < l.length → okC g l i := by
  unfold chsE at h
  split at h
  · cases h
  rename_i h1
  split at h
  · rename_i h2; exact ⟨Decidable.not_not.1 h1, h2⟩
  · cases h
def ChI (S : St) (gb : Nat) (cg : Option AB) (v : AV) (g : PGame) (l : List Int) (k : Nat) (A : Act') (X : St) : Prop := A.inr = false ∧ Same S X ∧ gb < X.nx ∧ X.h.get gb = cg ∧ ∃ i, i + k = l.length ∧ (∀ j, j < i → okC g l j) ∧ tmpV 2 A.F = .ptr gb 0 ∧ tmpV 20 A.F = v ∧ tmpV 21 A.F = .int .i64 ((l.length : Nat) : Int) ∧ tmpV 22 A.F = .int .i64 (i : Int)
theorem ok_next {g : PGame} {l : List Int} {i : Nat} (h : ∀ j, j < i → okC g l j) (hi : okC g l i) : ∀ j, j < i + 1 → okC g l j := fun j hj => by
  by_cases e : j = i
  · subst e; exact hi
  · exact h j (by omega)
set_option maxHeartbeats 4000000 in
theorem chosen_spec {S : St} {nv iv cv : AV} {g : PGame} {l : List Int} {pr : Nat → Nat} (H : Has fns) (hn : IsSlG 6 NodeE S nv g.nodes) (hi : IsSlG 2 InfoE S iv g.infos) (hc : IsSl .i64 S cv l) (hln : g.nodes.length ≤ 100000) (hll : l.length ≤ 10000000) (hpr : formE g = 0 → Prods g pr) :
    wpf fns (.fn 89 [] []) [.agg [.int .i64 g.players, nv, iv], cv] S fun r S' => Same S S' ∧ r = .tup [.int .i64 (chsN g l pr), .int .i64 (chsR g l pr)] := by
  refine wpf_fn H.f89 (by simp) ?_
  simp only [↓stU, stD, reduceEqDiff, ↓reduceIte, ↓stV, stW, Nat.reduceAdd]
  refine wsr ?_
  refine wpo_box (cs := [.int .i64 g.players, nv, iv]) rfl ?_
  intro S1 s1 n1 c1
  simp only [↓stU, stD, reduceEqDiff, ↓reduceIte, ↓stV, stW, Nat.reduceAdd]
  refine wss ?_
  simp only [↓stU, stD, reduceEqDiff, ↓reduceIte, ↓stV, stW, Nat.reduceAdd, lg3_a c1]
  refine wpo_call ?_
  simp only [↓stU, stD, reduceEqDiff, ↓reduceIte, ↓stV, stW, Nat.reduceAdd]
  refine wpf_mono (form_spec H (IsSlG.same (E := NodeE) firm_node hn s1) (IsSlG.same (E := InfoE) firm_info hi s1) hln) ?_
  rintro _ X ⟨rfl, hX⟩
  have sX := s1.trans hX
  have lgX : S.nx < X.nx := Nat.lt_of_lt_of_le (show S.nx < S1.nx by omega) hX.1
  have cX := (hX.2 _ (show S.nx < S1.nx by omega)).trans c1
  try simp only [↓stU, stD, reduceEqDiff, ↓reduceIte, ↓stV, stW, Nat.reduceAdd]
  refine wsr ?_
  simp only [↓stU, stD, reduceEqDiff, ↓reduceIte, ↓stV, stW, Nat.reduceAdd]
  by_cases h0 : formE g = 0
  rotate_left
  · unfold chsN chsR
    rw [if_pos h0, if_pos h0]
    refine wpc_yes (by simp only [↓stU, stD, reduceEqDiff, ↓reduceIte, ↓stV, stW, Nat.reduceAdd, decide_eq_true (show formE g ≠ 0 from h0)]) ?_
    refine wsr ?_
    simp only [↓stU, stD, reduceEqDiff, ↓reduceIte, ↓stV, stW, Nat.reduceAdd]
    refine wpc_ret ?_
    simp only [↓stU, stD, reduceEqDiff, ↓reduceIte, ↓stV, stW, Nat.reduceAdd]
    exact sX
  refine wpc_non (by simp only [↓stU, stD, reduceEqDiff, ↓reduceIte, ↓stV, stW, Nat.reduceAdd, decide_eq_false (show ¬ formE g ≠ 0 from fun h => h h0)]) (wpc_skip ?_)
  try simp only [↓stU, stD, reduceEqDiff, ↓reduceIte, ↓stV, stW, Nat.reduceAdd]
  have hcl := hc.len
  have hil := hi.len
  refine wss ?_
  simp only [↓stU, stD, reduceEqDiff, ↓reduceIte, ↓stV, stW, Nat.reduceAdd, evQ_faddr, faddr_ptr, lg3_2 cX, hcl, hil]
  by_cases hlen : l.length = g.infos.length
  rotate_left
  · have hE := chsE_len hlen
    obtain ⟨r1, r2⟩ := chs_bad (pr := pr) h0 hE (by omega)
    rw [r1, r2]
    refine wpc_yes (by simp only [↓stU, stD, reduceEqDiff, ↓reduceIte, ↓stV, stW, Nat.reduceAdd, Int.ofNat_eq_natCast, decide_eq_true (show ((l.length : Nat) : Int) ≠ ((g.infos.length : Nat) : Int) by omega)]) ?_
    refine wsr ?_
    simp only [↓stU, stD, reduceEqDiff, ↓reduceIte, ↓stV, stW, Nat.reduceAdd]
    refine wpc_ret ?_
    simp only [↓stU, stD, reduceEqDiff, ↓reduceIte, ↓stV, stW, Nat.reduceAdd]
    exact sX
  refine wpc_non (by simp only [↓stU, stD, reduceEqDiff, ↓reduceIte, ↓stV, stW, Nat.reduceAdd, Int.ofNat_eq_natCast, decide_eq_false (show ¬ ((l.length : Nat) : Int) ≠ ((g.infos.length : Nat) : Int) by omega)]) (wpc_skip ?_)
  try simp only [↓stU, stD, reduceEqDiff, ↓reduceIte, ↓stV, stW, Nat.reduceAdd]
  refine wpc_seq (wpc_mono (Q := fun o A' Z => (o = .normal ∧ ChI S S.nx (some (.cells [.int .i64 g.players, nv, iv] false 0)) cv g l 0 A' Z) ∨ (o = .ret ∧ Same S Z ∧ chsE g l = 2 ∧ tmpV 4 A'.F = .int .i64 0 ∧ tmpV 5 A'.F = .int .i64 2)) (wpc_seq (wpc_reg ?_)) ?_)
  · simp only [↓stU, stD, reduceEqDiff, ↓reduceIte, ↓stV, stW, Nat.reduceAdd, hcl, Int.ofNat_eq_natCast]
    refine wpc_block (wpc_loop (ChI S S.nx (some (.cells [.int .i64 g.players, nv, iv] false 0)) cv g l) ?_ l.length _ _ ⟨rfl, sX, lgX, cX, 0, by omega, fun j hj => by omega, by simp only [↓stU, stD, reduceEqDiff, ↓reduceIte, ↓stV, stW, Nat.reduceAdd], by simp only [↓stU, stD, reduceEqDiff, ↓reduceIte, ↓stV, stW, Nat.reduceAdd], by simp only [↓stU, stD, reduceEqDiff, ↓reduceIte, ↓stV, stW, Nat.reduceAdd], by simp only [↓stU, stD, reduceEqDiff, ↓reduceIte, ↓stV, stW, Nat.reduceAdd]⟩)
    rintro k ⟨F, inr⟩ V ⟨q0, hV, lgV, cV, i, hik, hok, p2, p20, p21, p22⟩
    simp only at q0 p2 p20 p21 p22
    subst q0
    refine wsr ?_
    simp only [↓stU, stD, reduceEqDiff, ↓reduceIte, ↓stV, stW, Nat.reduceAdd, p21, p22]
    by_cases hlt : i < l.length
    rotate_left
    · refine wpc_seq (wpc_non (by simp only [↓stU, stD, reduceEqDiff, ↓reduceIte, ↓stV, stW, Nat.reduceAdd, decide_eq_false (show ¬ (i : Int) < ((l.length : Nat) : Int) by omega)]) (wpc_exit ?_))
      simp only [↓stU, stD, reduceEqDiff, ↓reduceIte, ↓stV, stW, Nat.reduceAdd]
      have hk0 : k = 0 := by omega
      subst hk0
      exact .inl ⟨rfl, hV, lgV, cV, i, hik, hok, by simp only [↓stU, stD, reduceEqDiff, ↓reduceIte, ↓stV, stW, Nat.reduceAdd, p2], by simp only [↓stU, stD, reduceEqDiff, ↓reduceIte, ↓stV, stW, Nat.reduceAdd, p20], by simp only [↓stU, stD, reduceEqDiff, ↓reduceIte, ↓stV, stW, Nat.reduceAdd, p21], by simp only [↓stU, stD, reduceEqDiff, ↓reduceIte, ↓stV, stW, Nat.reduceAdd, p22]⟩
    refine wpc_seq (wpc_yes (by simp only [↓stU, stD, reduceEqDiff, ↓reduceIte, ↓stV, stW, Nat.reduceAdd, decide_eq_true (show (i : Int) < ((l.length : Nat) : Int) by omega)]) (wpc_skip ?_))
    try simp only [↓stU, stD, reduceEqDiff, ↓reduceIte, ↓stV, stW, Nat.reduceAdd]
    have hcV := hc.same hV
    have ia := hcV.iaddr hlt
    have la := hcV.ld hlt
    obtain ⟨ei, bi, qi, hii, hbi, _, hei, _, hfi⟩ := IsSlG.at (IsSlG.same (E := InfoE) firm_info hi hV) (by decide) (infoAt_some (show i < g.infos.length by omega))
    have hei : ei = [.int .i64 (infoAt g (i : Int)).player, .int .i64 (infoAt g (i : Int)).actions] := hei
    subst hei
    have l1 := hfi 1 _ rfl
    have w0 : IntKind.i64.wrap ((i : Int) + 1) = ((i + 1 : Nat) : Int) := by rw [wrap_i64 (by omega) (by omega)]; omega
    refine wpc_seq (wpc_block (wpc_seq (wpc_reg ?_)))
    simp only [↓stU, stD, reduceEqDiff, ↓reduceIte, ↓stV, stW, Nat.reduceAdd, p20, p22, natOf_cast, ia, la]
    refine wsr ?_
    by_cases hneg : l.getD i 0 < 0
    · simp only [↓stU, stD, reduceEqDiff, ↓reduceIte, ↓stV, stW, Nat.reduceAdd, decide_eq_true hneg]
      refine wpc_yes (by try simp only [↓stU, stD, reduceEqDiff, ↓reduceIte, ↓stV, stW, Nat.reduceAdd]) ?_
      refine wsr ?_
      simp only [↓stU, stD, reduceEqDiff, ↓reduceIte, ↓stV, stW, Nat.reduceAdd]
      refine wpc_ret ?_
      simp only [↓stU, stD, reduceEqDiff, ↓reduceIte, ↓stV, stW, Nat.reduceAdd]
      exact .inr ⟨hV, chsE_bad hlen hlt (fun h => by have := h.1; omega)⟩
    simp only [↓stU, stD, reduceEqDiff, ↓reduceIte, ↓stV, stW, Nat.reduceAdd, p2, decide_eq_false hneg, evQ_faddr, faddr_ptr, lg3_2 cV, natOf_cast, hii, l1]
    by_cases hge : (infoAt g (i : Int)).actions ≤ l.getD i 0
    · refine wpc_yes (by simp only [↓stU, stD, reduceEqDiff, ↓reduceIte, ↓stV, stW, Nat.reduceAdd, decide_eq_true hge]) ?_
      refine wsr ?_
      simp only [↓stU, stD, reduceEqDiff, ↓reduceIte, ↓stV, stW, Nat.reduceAdd]
      refine wpc_ret ?_
      simp only [↓stU, stD, reduceEqDiff, ↓reduceIte, ↓stV, stW, Nat.reduceAdd]
      exact .inr ⟨hV, chsE_bad hlen hlt (fun h => by have := h.2; omega)⟩
    refine wpc_non (by simp only [↓stU, stD, reduceEqDiff, ↓reduceIte, ↓stV, stW, Nat.reduceAdd, decide_eq_false hge]) (wpc_skip ?_)
    try simp only [↓stU, stD, reduceEqDiff, ↓reduceIte, ↓stV, stW, Nat.reduceAdd]
    refine wpc_reg ?_
    simp only [↓stU, stD, reduceEqDiff, ↓reduceIte, ↓stV, stW, Nat.reduceAdd, p22, w0]
    exact ⟨k - 1, by omega, rfl, hV, lgV, cV, i + 1, by omega, ok_next hok ⟨by omega, by omega⟩, by simp only [↓stU, stD, reduceEqDiff, ↓reduceIte, ↓stV, stW, Nat.reduceAdd, p2], by simp only [↓stU, stD, reduceEqDiff, ↓reduceIte, ↓stV, stW, Nat.reduceAdd, p20], by simp only [↓stU, stD, reduceEqDiff, ↓reduceIte, ↓stV, stW, Nat.reduceAdd, p21], by simp only [↓stU, stD, reduceEqDiff, ↓reduceIte, ↓stV, stW, Nat.reduceAdd]⟩
  rintro o ⟨F, inr⟩ Z (⟨rfl, q0, hZ, lgZ, cZ, i, hik, hok, p2, _⟩ | ⟨rfl, hZ, hE, p4, p5⟩)
  rotate_left
  · simp only at p4 p5
    simp only [↓stU, stD, reduceEqDiff, ↓reduceIte, ↓stV, stW, Nat.reduceAdd, p4, p5]
    obtain ⟨r1, r2⟩ := chs_bad (pr := pr) h0 hE (by omega)
    rw [r1, r2]
    exact ⟨hZ, rfl⟩
  simp only at q0 p2
  subst q0
  obtain rfl : i = l.length := by omega
  have hE := chsE_ok hlen hok
  obtain ⟨r1, r2⟩ := chs_ok (pr := pr) h0 hE
  rw [r1, r2]
  try simp only [↓stU, stD, reduceEqDiff, ↓reduceIte, ↓stV, stW, Nat.reduceAdd]
  refine wsr ?_
  simp only [↓stU, stD, reduceEqDiff, ↓reduceIte, ↓stV, stW, Nat.reduceAdd, p2, lg3_a cZ]
  refine wpo_call ?_
  simp only [↓stU, stD, reduceEqDiff, ↓reduceIte, ↓stV, stW, Nat.reduceAdd]
  refine wpf_mono (size_spec (pr := pr) H (IsSlG.same (E := NodeE) firm_node hn hZ) (IsSlG.same (E := InfoE) firm_info hi hZ) hln hpr) ?_
  rintro _ W ⟨hW, rfl⟩
  rw [if_pos h0]
  simp only [↓stU, stD, reduceEqDiff, ↓reduceIte, ↓stV, stW, Nat.reduceAdd, ex0, ex1]
  refine wpc_ret ?_
  simp only [↓stU, stD, reduceEqDiff, ↓reduceIte, ↓stV, stW, Nat.reduceAdd]
  exact hZ.trans hW
def ChX (S : St) (gb : Nat) (cg : Option AB) (v : AV) (g : PGame) (l : List Int) (k : Nat) (A : Act') (X : St) : Prop := A.inr = false ∧ Same S X ∧ gb < X.nx ∧ X.h.get gb = cg ∧ ∃ i, i + k = l.length ∧ (∀ j, j < i → okC g l j) ∧ tmpV 2 A.F = .ptr gb 0 ∧ tmpV 1 A.F = v ∧ tmpV 7 A.F = .int .i64 (i : Int)
set_option maxHeartbeats 4000000 in
theorem xchosen_spec {S : St} {nv iv cv : AV} {g : PGame} {l : List Int} {pr : Nat → Nat} (H : Has fns) (hn : IsSlG 6 NodeE S nv g.nodes) (hi : IsSlG 2 InfoE S iv g.infos) (hc : IsSl .i64 S cv l) (hln : g.nodes.length ≤ 100000) (hll : l.length ≤ 10000000) (hpr : formE g = 0 → Prods g pr) :
    wpf fns (.fn 91 [] []) [.agg [.int .i64 g.players, nv, iv], cv] S fun r S' => Same S S' ∧ r = .tup [.int .i64 (chsN g l pr), .int .i64 (chsR g l pr)] := by
  refine wpf_fn H.f91 (by simp) ?_
  simp only [↓stU, stD, reduceEqDiff, ↓reduceIte, ↓stV, stW, Nat.reduceAdd]
  refine wsr ?_
  refine wpo_box (cs := [.int .i64 g.players, nv, iv]) rfl ?_
  intro S1 s1 n1 c1
  simp only [↓stU, stD, reduceEqDiff, ↓reduceIte, ↓stV, stW, Nat.reduceAdd]
  refine wss ?_
  simp only [↓stU, stD, reduceEqDiff, ↓reduceIte, ↓stV, stW, Nat.reduceAdd, lg3_a c1]
  refine wpo_call ?_
  simp only [↓stU, stD, reduceEqDiff, ↓reduceIte, ↓stV, stW, Nat.reduceAdd]
  refine wpf_mono (xform_spec H (IsSlG.same (E := NodeE) firm_node hn s1) (IsSlG.same (E := InfoE) firm_info hi s1) hln) ?_
  rintro _ X ⟨rfl, hX⟩
  have sX := s1.trans hX
  have lgX : S.nx < X.nx := Nat.lt_of_lt_of_le (show S.nx < S1.nx by omega) hX.1
  have cX := (hX.2 _ (show S.nx < S1.nx by omega)).trans c1
  try simp only [↓stU, stD, reduceEqDiff, ↓reduceIte, ↓stV, stW, Nat.reduceAdd]
  refine wsr ?_
  simp only [↓stU, stD, reduceEqDiff, ↓reduceIte, ↓stV, stW, Nat.reduceAdd]
  by_cases h0 : formE g = 0
  rotate_left
  · unfold chsN chsR
    rw [if_pos h0, if_pos h0]
    refine wpc_yes (by simp only [↓stU, stD, reduceEqDiff, ↓reduceIte, ↓stV, stW, Nat.reduceAdd, decide_eq_true (show formE g ≠ 0 from h0)]) ?_
    refine wsr ?_
    simp only [↓stU, stD, reduceEqDiff, ↓reduceIte, ↓stV, stW, Nat.reduceAdd]
    refine wpc_ret ?_
    simp only [↓stU, stD, reduceEqDiff, ↓reduceIte, ↓stV, stW, Nat.reduceAdd]
    exact sX
  refine wpc_non (by simp only [↓stU, stD, reduceEqDiff, ↓reduceIte, ↓stV, stW, Nat.reduceAdd, decide_eq_false (show ¬ formE g ≠ 0 from fun h => h h0)]) (wpc_skip ?_)
  try simp only [↓stU, stD, reduceEqDiff, ↓reduceIte, ↓stV, stW, Nat.reduceAdd]
  have hcl := hc.len
  have hil := hi.len
  refine wss ?_
  simp only [↓stU, stD, reduceEqDiff, ↓reduceIte, ↓stV, stW, Nat.reduceAdd, evQ_faddr, faddr_ptr, lg3_2 cX, hcl, hil]
  by_cases hlen : l.length = g.infos.length
  rotate_left
  · have hE := chsE_len hlen
    obtain ⟨r1, r2⟩ := chs_bad (pr := pr) h0 hE (by omega)
    rw [r1, r2]
    refine wpc_yes (by simp only [↓stU, stD, reduceEqDiff, ↓reduceIte, ↓stV, stW, Nat.reduceAdd, Int.ofNat_eq_natCast, decide_eq_true (show ((l.length : Nat) : Int) ≠ ((g.infos.length : Nat) : Int) by omega)]) ?_
    refine wsr ?_
    simp only [↓stU, stD, reduceEqDiff, ↓reduceIte, ↓stV, stW, Nat.reduceAdd]
    refine wpc_ret ?_
    simp only [↓stU, stD, reduceEqDiff, ↓reduceIte, ↓stV, stW, Nat.reduceAdd]
    exact sX
  refine wpc_non (by simp only [↓stU, stD, reduceEqDiff, ↓reduceIte, ↓stV, stW, Nat.reduceAdd, Int.ofNat_eq_natCast, decide_eq_false (show ¬ ((l.length : Nat) : Int) ≠ ((g.infos.length : Nat) : Int) by omega)]) (wpc_skip ?_)
  try simp only [↓stU, stD, reduceEqDiff, ↓reduceIte, ↓stV, stW, Nat.reduceAdd]
  refine wpc_seq (wpc_mono (Q := fun o A' Z => (o = .normal ∧ ChX S S.nx (some (.cells [.int .i64 g.players, nv, iv] false 0)) cv g l 0 A' Z) ∨ (o = .ret ∧ Same S Z ∧ chsE g l = 2 ∧ tmpV 4 A'.F = .int .i64 0 ∧ tmpV 5 A'.F = .int .i64 2)) (wpc_seq (wpc_reg ?_)) ?_)
  · simp only [↓stU, stD, reduceEqDiff, ↓reduceIte, ↓stV, stW, Nat.reduceAdd]
    refine wpc_block (wpc_loop (ChX S S.nx (some (.cells [.int .i64 g.players, nv, iv] false 0)) cv g l) ?_ l.length _ _ ⟨rfl, sX, lgX, cX, 0, by omega, fun j hj => by omega, by simp only [↓stU, stD, reduceEqDiff, ↓reduceIte, ↓stV, stW, Nat.reduceAdd], by simp only [↓stU, stD, reduceEqDiff, ↓reduceIte, ↓stV, stW, Nat.reduceAdd], by simp only [↓stU, stD, reduceEqDiff, ↓reduceIte, ↓stV, stW, Nat.reduceAdd]⟩)
    rintro k ⟨F, inr⟩ V ⟨q0, hV, lgV, cV, i, hik, hok, p2, p1, p7⟩
    simp only at q0 p2 p1 p7
    subst q0
    refine wss ?_
    simp only [↓stU, stD, reduceEqDiff, ↓reduceIte, ↓stV, stW, Nat.reduceAdd, p1, p7, hcl, Int.ofNat_eq_natCast]
    by_cases hlt : i < l.length
    rotate_left
    · refine wpc_non (by simp only [↓stU, stD, reduceEqDiff, ↓reduceIte, ↓stV, stW, Nat.reduceAdd, decide_eq_false (show ¬ (i : Int) < ((l.length : Nat) : Int) by omega)]) (wpc_exit ?_)
      simp only [↓stU, stD, reduceEqDiff, ↓reduceIte, ↓stV, stW, Nat.reduceAdd]
      have hk0 : k = 0 := by omega
      subst hk0
      exact .inl ⟨rfl, hV, lgV, cV, i, hik, hok, by simp only [↓stU, stD, reduceEqDiff, ↓reduceIte, ↓stV, stW, Nat.reduceAdd, p2], by simp only [↓stU, stD, reduceEqDiff, ↓reduceIte, ↓stV, stW, Nat.reduceAdd, p1], by simp only [↓stU, stD, reduceEqDiff, ↓reduceIte, ↓stV, stW, Nat.reduceAdd, p7]⟩
    refine wpc_yes (by simp only [↓stU, stD, reduceEqDiff, ↓reduceIte, ↓stV, stW, Nat.reduceAdd, decide_eq_true (show (i : Int) < ((l.length : Nat) : Int) by omega)]) (wpc_skip ?_)
    try simp only [↓stU, stD, reduceEqDiff, ↓reduceIte, ↓stV, stW, Nat.reduceAdd]
    have hcV := hc.same hV
    have ia := hcV.iaddr hlt
    have la := hcV.ld hlt
    have scv := IsSl.self hc
    obtain ⟨ei, bi, qi, hii, hbi, _, hei, _, hfi⟩ := IsSlG.at (IsSlG.same (E := InfoE) firm_info hi hV) (by decide) (infoAt_some (show i < g.infos.length by omega))
    have hei : ei = [.int .i64 (infoAt g (i : Int)).player, .int .i64 (infoAt g (i : Int)).actions] := hei
    subst hei
    have l1 := hfi 1 _ rfl
    have siv := IsSlG.self hi
    have w0 : IntKind.i64.wrap ((i : Int) + 1) = ((i + 1 : Nat) : Int) := by rw [wrap_i64 (by omega) (by omega)]; omega
    refine wpc_seq (wpc_block (wpc_seq (wpc_drq ?_)))
    by_cases hneg : l.getD i 0 < 0
    · simp only [↓stU, stD, reduceEqDiff, ↓reduceIte, ↓stV, stW, Nat.reduceAdd, p1, p7, natOf_cast, ia, la, scv, decide_eq_true hneg]
      refine wpc_yes (by try simp only [↓stU, stD, reduceEqDiff, ↓reduceIte, ↓stV, stW, Nat.reduceAdd]) ?_
      refine wsr ?_
      simp only [↓stU, stD, reduceEqDiff, ↓reduceIte, ↓stV, stW, Nat.reduceAdd]
      refine wpc_ret ?_
      simp only [↓stU, stD, reduceEqDiff, ↓reduceIte, ↓stV, stW, Nat.reduceAdd]
      exact .inr ⟨hV.trans (Same.nx _ _), chsE_bad hlen hlt (fun h => by have := h.1; omega)⟩
    simp only [↓stU, stD, reduceEqDiff, ↓reduceIte, ↓stV, stW, Nat.reduceAdd, p1, p2, p7, natOf_cast, ia, la, scv, siv, decide_eq_false hneg, isLoad_faddr, evQ_faddr, faddr_ptr, lg3_2 cV, hii, l1]
    by_cases hge : (infoAt g (i : Int)).actions ≤ l.getD i 0
    · refine wpc_yes (by simp only [↓stU, stD, reduceEqDiff, ↓reduceIte, ↓stV, stW, Nat.reduceAdd, decide_eq_true hge]) ?_
      refine wsr ?_
      simp only [↓stU, stD, reduceEqDiff, ↓reduceIte, ↓stV, stW, Nat.reduceAdd]
      refine wpc_ret ?_
      simp only [↓stU, stD, reduceEqDiff, ↓reduceIte, ↓stV, stW, Nat.reduceAdd]
      exact .inr ⟨hV.trans (Same.nx _ _), chsE_bad hlen hlt (fun h => by have := h.2; omega)⟩
    refine wpc_non (by simp only [↓stU, stD, reduceEqDiff, ↓reduceIte, ↓stV, stW, Nat.reduceAdd, decide_eq_false hge]) (wpc_skip ?_)
    try simp only [↓stU, stD, reduceEqDiff, ↓reduceIte, ↓stV, stW, Nat.reduceAdd]
    refine wpc_reg ?_
    simp only [↓stU, stD, reduceEqDiff, ↓reduceIte, ↓stV, stW, Nat.reduceAdd, p7, w0]
    exact ⟨k - 1, by omega, rfl, hV.trans (Same.nx _ _), Nat.lt_of_lt_of_le lgV (Same.nx _ _).1, cV, i + 1, by omega, ok_next hok ⟨by omega, by omega⟩, by simp only [↓stU, stD, reduceEqDiff, ↓reduceIte, ↓stV, stW, Nat.reduceAdd, p2], by simp only [↓stU, stD, reduceEqDiff, ↓reduceIte, ↓stV, stW, Nat.reduceAdd, p1], by simp only [↓stU, stD, reduceEqDiff, ↓reduceIte, ↓stV, stW, Nat.reduceAdd]⟩
  rintro o ⟨F, inr⟩ Z (⟨rfl, q0, hZ, lgZ, cZ, i, hik, hok, p2, _⟩ | ⟨rfl, hZ, hE, p4, p5⟩)
  rotate_left
  · simp only at p4 p5
    simp only [↓stU, stD, reduceEqDiff, ↓reduceIte, ↓stV, stW, Nat.reduceAdd, p4, p5]
    obtain ⟨r1, r2⟩ := chs_bad (pr := pr) h0 hE (by omega)
    rw [r1, r2]
    exact ⟨hZ, rfl⟩
  simp only at q0 p2
  subst q0
  obtain rfl : i = l.length := by omega
  have hE := chsE_ok hlen hok
  obtain ⟨r1, r2⟩ := chs_ok (pr := pr) h0 hE
  rw [r1, r2]
  try simp only [↓stU, stD, reduceEqDiff, ↓reduceIte, ↓stV, stW, Nat.reduceAdd]
  refine wsr ?_
  simp only [↓stU, stD, reduceEqDiff, ↓reduceIte, ↓stV, stW, Nat.reduceAdd, p2, lg3_a cZ]
  refine wpo_call ?_
  simp only [↓stU, stD, reduceEqDiff, ↓reduceIte, ↓stV, stW, Nat.reduceAdd]
  refine wpf_mono (xsize_spec (pr := pr) H (IsSlG.same (E := NodeE) firm_node hn hZ) (IsSlG.same (E := InfoE) firm_info hi hZ) hln hpr) ?_
  rintro _ W ⟨hW, rfl⟩
  rw [if_pos h0]
  simp only [↓stU, stD, reduceEqDiff, ↓reduceIte, ↓stV, stW, Nat.reduceAdd, ex0, ex1]
  refine wpc_ret ?_
  simp only [↓stU, stD, reduceEqDiff, ↓reduceIte, ↓stV, stW, Nat.reduceAdd]
  exact hZ.trans hW
end Go.Ev.Gl

namespace Go.Ev.Gl
variable {fns : T AFn}

/-! ## A play of chosen actions, of both sides -/
noncomputable def pathE (g : PGame) (l : List Int) (pr : Nat → Nat) (s : Int) : Int := if chsR g l pr ≠ 0 then chsR g l pr else if s < 0 ∨ chsN g l pr ≤ s then 2 else 0
theorem chsR_zero {g : PGame} {l : List Int} {pr : Nat → Nat} (h : chsR g l pr = 0) : formE g = 0 ∧ chsE g l = 0 := by
  by_cases h0 : formE g = 0
  · by_cases h1 : chsE g l = 0
    · exact ⟨h0, h1⟩
    · exact absurd ((chs_bad (pr := pr) h0 rfl h1).2.symm.trans h) h1
  · unfold chsR at h
    rw [if_pos h0] at h
    exact absurd h h0
theorem pathE_zero {g : PGame} {l : List Int} {pr : Nat → Nat} {s : Int} (h : pathE g l pr s = 0) : chsR g l pr = 0 ∧ 0 ≤ s ∧ s < chsN g l pr := by
  by_cases h1 : chsR g l pr = 0
  · unfold pathE at h
    rw [if_neg (fun h' => h' h1)] at h
    split at h
    · cases h
    · omega
  · unfold pathE at h
    rw [if_pos h1] at h
    exact absurd h h1
def PathR (S : St) (v : AV) (g : PGame) (l : List Int) (pr : Nat → Nat) (s : Int) (r : AV) (X : St) : Prop := Same S X ∧ ∃ x, r = .tup [x, .int .i64 (pathE g l pr s)] ∧ (pathE g l pr s ≠ 0 → x = .nilsl) ∧ (pathE g l pr s = 0 → IsSl .i64 X x (pathL g (decF v l) g.nodes.length 0 s.toNat))
theorem mkF {t s : Nat} {v : AV} {F : Fr} {h : Ev.T AB} (e : tmpV s F = v) : evQ (.mkIface t (.t s)) F h = some (.iface t v) := by show some (AV.iface _ (tmpV s F)) = _; rw [e]
set_option maxHeartbeats 4000000 in
theorem path_spec {S : St} {nv iv cv : AV} {g : PGame} {l : List Int} {pr : Nat → Nat} {s : Int} (H : Has fns) (hn : IsSlG 6 NodeE S nv g.nodes) (hi : IsSlG 2 InfoE S iv g.infos) (hc : IsSl .i64 S cv l) (hln : g.nodes.length ≤ 100000) (hll : l.length ≤ 10000000) (hs : s ≤ 9223372036854775807) (hpr : formE g = 0 → Prods g pr) :
    wpf fns (.fn 42 [] []) [.agg [.int .i64 g.players, nv, iv], cv, .int .i64 s] S (PathR S cv g l pr s) := by
  refine wpf_fn H.f42 (by simp) ?_
  simp only [↓stU, stD, reduceEqDiff, ↓reduceIte, ↓stV, stW, Nat.reduceAdd]
  refine wsr ?_
  refine wpo_box (cs := [.int .i64 g.players, nv, iv]) rfl ?_
  intro S1 s1 n1 c1
  simp only [↓stU, stD, reduceEqDiff, ↓reduceIte, ↓stV, stW, Nat.reduceAdd]
  refine wsr ?_
  simp only [↓stU, stD, reduceEqDiff, ↓reduceIte, ↓stV, stW, Nat.reduceAdd, lg3_a c1]
  refine wpo_call ?_
  simp only [↓stU, stD, reduceEqDiff, ↓reduceIte, ↓stV, stW, Nat.reduceAdd]
  refine wpf_mono (chosen_spec (pr := pr) H (IsSlG.same (E := NodeE) firm_node hn s1) (IsSlG.same (E := InfoE) firm_info hi s1) (hc.same s1) hln hll hpr) ?_
  rintro _ X ⟨hX, rfl⟩
  have sX := s1.trans hX
  have cX := (hX.2 _ (show S.nx < S1.nx by omega)).trans c1
  simp only [↓stU, stD, reduceEqDiff, ↓reduceIte, ↓stV, stW, Nat.reduceAdd, ex0, ex1]
  refine wss ?_
  simp only [↓stU, stD, reduceEqDiff, ↓reduceIte, ↓stV, stW, Nat.reduceAdd]
  by_cases h1 : chsR g l pr = 0
  rotate_left
  · have hE : pathE g l pr s = chsR g l pr := by unfold pathE; rw [if_pos h1]
    refine wpc_yes (by simp only [↓stU, stD, reduceEqDiff, ↓reduceIte, ↓stV, stW, Nat.reduceAdd, decide_eq_true (show chsR g l pr ≠ 0 from h1)]) ?_
    refine wsr ?_
    simp only [↓stU, stD, reduceEqDiff, ↓reduceIte, ↓stV, stW, Nat.reduceAdd]
    refine wpc_ret ?_
    simp only [↓stU, stD, reduceEqDiff, ↓reduceIte, ↓stV, stW, Nat.reduceAdd]
    exact ⟨sX, .nilsl, by rw [hE], fun _ => rfl, fun h => absurd (hE.symm.trans h) h1⟩
  refine wpc_non (by simp only [↓stU, stD, reduceEqDiff, ↓reduceIte, ↓stV, stW, Nat.reduceAdd, decide_eq_false (show ¬ chsR g l pr ≠ 0 from fun h => h h1)]) (wpc_skip ?_)
  try simp only [↓stU, stD, reduceEqDiff, ↓reduceIte, ↓stV, stW, Nat.reduceAdd]
  have hE : pathE g l pr s = if s < 0 ∨ chsN g l pr ≤ s then 2 else 0 := by unfold pathE; rw [if_neg (fun h => h h1)]
  refine wss ?_
  by_cases hneg : s < 0
  · rw [if_pos (.inl hneg)] at hE
    simp only [↓stU, stD, reduceEqDiff, ↓reduceIte, ↓stV, stW, Nat.reduceAdd, decide_eq_true hneg]
    refine wpc_yes (by simp only [↓stU, stD, reduceEqDiff, ↓reduceIte, ↓stV, stW, Nat.reduceAdd]) ?_
    refine wsr ?_
    simp only [↓stU, stD, reduceEqDiff, ↓reduceIte, ↓stV, stW, Nat.reduceAdd]
    refine wpc_ret ?_
    simp only [↓stU, stD, reduceEqDiff, ↓reduceIte, ↓stV, stW, Nat.reduceAdd]
    exact ⟨sX, .nilsl, by rw [hE], fun _ => rfl, fun h => by rw [hE] at h; cases h⟩
  by_cases hge : chsN g l pr ≤ s
  · rw [if_pos (.inr hge)] at hE
    simp only [↓stU, stD, reduceEqDiff, ↓reduceIte, ↓stV, stW, Nat.reduceAdd, decide_eq_false hneg]
    refine wpc_yes (by simp only [↓stU, stD, reduceEqDiff, ↓reduceIte, ↓stV, stW, Nat.reduceAdd, decide_eq_true hge]) ?_
    refine wsr ?_
    simp only [↓stU, stD, reduceEqDiff, ↓reduceIte, ↓stV, stW, Nat.reduceAdd]
    refine wpc_ret ?_
    simp only [↓stU, stD, reduceEqDiff, ↓reduceIte, ↓stV, stW, Nat.reduceAdd]
    exact ⟨sX, .nilsl, by rw [hE], fun _ => rfl, fun h => by rw [hE] at h; cases h⟩
  rw [if_neg (by omega)] at hE
  simp only [↓stU, stD, reduceEqDiff, ↓reduceIte, ↓stV, stW, Nat.reduceAdd, decide_eq_false hneg]
  refine wpc_non (by simp only [↓stU, stD, reduceEqDiff, ↓reduceIte, ↓stV, stW, Nat.reduceAdd, decide_eq_false hge]) (wpc_skip ?_)
  try simp only [↓stU, stD, reduceEqDiff, ↓reduceIte, ↓stV, stW, Nat.reduceAdd]
  obtain ⟨h0, hch⟩ := chsR_zero h1
  have G := goodK_of h0
  obtain ⟨hlen, hok⟩ := chsE_zero hch
  obtain ⟨n, rfl⟩ : ∃ n : Nat, s = (n : Int) := ⟨s.toNat, by omega⟩
  have hm : isLoad (.mkIface 139 (.t 27)) = false := rfl
  refine wsr ?_
  simp only [↓stU, stD, reduceEqDiff, ↓reduceIte, ↓stV, stW, Nat.reduceAdd, lg3_a cX, hm]
  rw [mkF (v := cv) (by simp only [↓stU, stD, reduceEqDiff, ↓reduceIte, ↓stV, stW, Nat.reduceAdd])]
  simp only [↓stU, stD, reduceEqDiff, ↓reduceIte, ↓stV, stW, Nat.reduceAdd]
  refine wpo_call ?_
  simp only [↓stU, stD, reduceEqDiff, ↓reduceIte, ↓stV, stW, Nat.reduceAdd]
  have hcX := hc.same sX
  refine wpf_mono (walked34_spec (D := decF cv l) (s := n) H G (IsSlG.same (E := NodeE) firm_node hn sX) (fun i hi hk => decF_h H G hcX hlen hok hi hk) (by omega)) ?_
  rintro r Y ⟨hY, hr⟩
  try simp only [↓stU, stD, reduceEqDiff, ↓reduceIte, ↓stV, stW, Nat.reduceAdd]
  refine wpc_ret ?_
  simp only [↓stU, stD, reduceEqDiff, ↓reduceIte, ↓stV, stW, Nat.reduceAdd]
  exact ⟨sX.trans hY, r, by rw [hE], fun h => absurd hE h, fun _ => by rw [Int.toNat_natCast]; exact hr⟩
end Go.Ev.Gl

namespace Go.Ev.Gl
variable {fns : T AFn}

/-! ## The reference's play -/
/-- the list that grows: as it was made, or grown -/
def OutR (Y X : St) (v : AV) (p : List Int) : Prop := (∃ b x, v = .sl b 0 1 1 false ∧ p = [x] ∧ Y.nx ≤ b ∧ b < X.nx ∧ X.h.get b = some (.cells [.int .i64 x] false 0)) ∨ GrW 1 Y X v p.length (cells64 p)
theorem OutR.step {Y X X' : St} {v : AV} {p : List Int} (h : OutR Y X v p) (hs : Same X X') : OutR Y X' v p := by
  rcases h with ⟨b, x, h1, h2, h3, h4, h5⟩ | h
  · exact .inl ⟨b, x, h1, h2, h3, Nat.lt_of_lt_of_le h4 hs.1, (hs.2 b h4).trans h5⟩
  · exact .inr (h.step hs)
theorem OutR.is {Y X : St} {v : AV} {p : List Int} (h : OutR Y X v p) : IsSl .i64 X v p := by
  rcases h with ⟨b, x, rfl, rfl, _, h4, h5⟩ | h
  · refine .inr ⟨b, 0, 1, false, [.int .i64 x], rfl, Nat.le_refl _, h4, by unfold cellsAt; rw [h5]; rfl, fun i y hi => ?_⟩
    rw [Nat.zero_add]
    cases i with
    | zero => simp at hi; subst hi; rfl
    | succ i => simp at hi
  · exact h.is
theorem OutR.blk {Y X : St} {v : AV} {p : List Int} {c : Nat} (h : OutR Y X v p) (hc : blkOf v = some c) : Y.nx ≤ c ∧ c < X.nx := by
  rcases h with ⟨b, x, rfl, _, h3, h4, _⟩ | h
  · cases hc; exact ⟨h3, h4⟩
  · exact ⟨(h.blk hc).1, (h.blk hc).2.1⟩
theorem OutR.push {bytes t : Nat} {Y S : St} {v : AV} {p : List Int} {w : Int} (h : OutR Y S v p) (hS : Same Y S) (ht : S.h.get t = some (.cells [.int .i64 w] false 0)) (h1 : p.length + 1 ≤ room) (h2 : (p.length + 1) * bytes ≤ room) :
    ∃ v' S', appendV bytes 1 v (.sl t 0 1 1 false) S = some (v', S') ∧ OutR Y S' v' (p ++ [w]) ∧ S'.nx = S.nx + 1 ∧ ∀ c, c < S.nx → blkOf v ≠ some c → S'.h.get c = S.h.get c := by
  rcases h with ⟨b, x, rfl, rfl, h3, h4, h5⟩ | h
  · have hs := src1 ht
    have h1 : 1 + 1 ≤ room := h1
    have h2 : (1 + 1) * bytes ≤ room := h2
    refine ⟨.sl S.nx 0 2 2 true, ⟨S.h.set S.nx (some (.cells [.int .i64 x, .int .i64 w] true 1)), S.nx + 1⟩, ?_, .inr (.inr ⟨S.nx, rfl, hS.1, by simp, ?_, rfl⟩), rfl, fun c hc _ => (Same.alloc S _).2 c hc⟩
    · show (osel (some 1) fun j => osel (srcCells (.sl t 0 1 1 false) S.h 1 j) fun new => appV (.sl b 0 1 1 false) bytes 1 j new S) = _
      rw [osel_some, hs, osel_some]
      show appSl bytes 1 b 0 1 1 false 1 [.int .i64 w] S = _
      unfold appSl
      rw [show Nat.ble (1 + 1) 1 = false from rfl, bsel_false, Nat.ble_eq_true_of_le h1, bsel_true, Nat.ble_eq_true_of_le h2, bsel_true, h5, osel_some]
      rfl
    · simp only
      rw [T.get_set, if_pos rfl]
      rfl
  · obtain ⟨v', S', e, g, _, n, r⟩ := h.push hS ht h1 h2
    exact ⟨v', S', e, .inr g, n, r⟩
/-- one step of a play -/
theorem pathL_end {g : PGame} {D : Dec} {k i s : Nat} (h : (nodeAt g i).kind = 3) : pathL g D (k + 1) i s = [(i : Int)] := by simp only [pathL]; rw [if_pos h]
theorem pathL_chance {g : PGame} {D : Dec} {k i s : Nat} (h : (nodeAt g i).kind = 1) : pathL g D (k + 1) i s = (i : Int) :: pathL g D k ((nodeAt g i).next.getD (pickN (nodeAt g i).weights ((s % (nodeAt g i).weights.sum.toNat : Nat) : Int)) 0).toNat (s / (nodeAt g i).weights.sum.toNat) := by
  simp only [pathL]
  rw [if_neg (by omega)]
  unfold decAt
  rw [if_pos h]
  rfl
theorem pathL_move {g : PGame} {v : AV} {l : List Int} {k i s : Nat} (h : (nodeAt g i).kind = 2) : pathL g (decF v l) (k + 1) i s = (i : Int) :: pathL g (decF v l) k ((nodeAt g i).next.getD (l.getD (nodeAt g i).info.toNat 0).toNat 0).toNat s := by
  simp only [pathL]
  rw [if_neg (by omega)]
  unfold decAt
  rw [if_neg (by omega)]
  show (i : Int) :: pathL g (decF v l) k _ (s / 1) = _
  rw [Nat.div_one]
  rfl
def XpI (S Y : St) (gb : Nat) (cg : Option AB) (v : AV) (g : PGame) (l : List Int) (tot : List Int) (k : Nat) (A : Act') (X : St) : Prop := A.inr = false ∧ Same S X ∧ Same Y X ∧ X.h.get gb = cg ∧ ∃ (i s : Nat) (p : List Int) (pv : AV), i < g.nodes.length ∧ g.nodes.length ≤ k + i ∧ s ≤ 9223372036854775807 ∧ tot = p ++ pathL g (decF v l) k i s ∧ p.length ≤ i ∧ OutR Y X pv (p ++ [(i : Int)]) ∧ tmpV 1 A.F = v ∧ tmpV 2 A.F = .int .i64 (s : Int) ∧ tmpV 3 A.F = .ptr gb 0 ∧ tmpV 10 A.F = .int .i64 (i : Int) ∧ tmpV 11 A.F = pv
set_option maxHeartbeats 4000000 in
theorem xpath_spec {S : St} {nv iv cv : AV} {g : PGame} {l : List Int} {pr : Nat → Nat} {s : Int} (H : Has fns) (hn : IsSlG 6 NodeE S nv g.nodes) (hi : IsSlG 2 InfoE S iv g.infos) (hc : IsSl .i64 S cv l) (hln : g.nodes.length ≤ 100000) (hll : l.length ≤ 10000000) (hs : s ≤ 9223372036854775807) (hpr : formE g = 0 → Prods g pr) :
    wpf fns (.fn 43 [] []) [.agg [.int .i64 g.players, nv, iv], cv, .int .i64 s] S (PathR S cv g l pr s) := by
  refine wpf_fn H.f43 (by simp) ?_
  simp only [↓stU, stD, reduceEqDiff, ↓reduceIte, ↓stV, stW, Nat.reduceAdd]
  refine wsr ?_
  refine wpo_box (cs := [.int .i64 g.players, nv, iv]) rfl ?_
  intro S1 s1 n1 c1
  simp only [↓stU, stD, reduceEqDiff, ↓reduceIte, ↓stV, stW, Nat.reduceAdd]
  refine wsr ?_
  simp only [↓stU, stD, reduceEqDiff, ↓reduceIte, ↓stV, stW, Nat.reduceAdd, lg3_a c1]
  refine wpo_call ?_
  simp only [↓stU, stD, reduceEqDiff, ↓reduceIte, ↓stV, stW, Nat.reduceAdd]
  refine wpf_mono (xchosen_spec (pr := pr) H (IsSlG.same (E := NodeE) firm_node hn s1) (IsSlG.same (E := InfoE) firm_info hi s1) (hc.same s1) hln hll hpr) ?_
  rintro _ X ⟨hX, rfl⟩
  have sX := s1.trans hX
  have cX := (hX.2 _ (show S.nx < S1.nx by omega)).trans c1
  simp only [↓stU, stD, reduceEqDiff, ↓reduceIte, ↓stV, stW, Nat.reduceAdd, ex0, ex1]
  refine wss ?_
  simp only [↓stU, stD, reduceEqDiff, ↓reduceIte, ↓stV, stW, Nat.reduceAdd]
  by_cases h1 : chsR g l pr = 0
  rotate_left
  · have hE : pathE g l pr s = chsR g l pr := by unfold pathE; rw [if_pos h1]
    refine wpc_yes (by simp only [↓stU, stD, reduceEqDiff, ↓reduceIte, ↓stV, stW, Nat.reduceAdd, decide_eq_true (show chsR g l pr ≠ 0 from h1)]) ?_
    refine wsr ?_
    simp only [↓stU, stD, reduceEqDiff, ↓reduceIte, ↓stV, stW, Nat.reduceAdd]
    refine wpc_ret ?_
    simp only [↓stU, stD, reduceEqDiff, ↓reduceIte, ↓stV, stW, Nat.reduceAdd]
    exact ⟨sX, .nilsl, by rw [hE], fun _ => rfl, fun h => absurd (hE.symm.trans h) h1⟩
  refine wpc_non (by simp only [↓stU, stD, reduceEqDiff, ↓reduceIte, ↓stV, stW, Nat.reduceAdd, decide_eq_false (show ¬ chsR g l pr ≠ 0 from fun h => h h1)]) (wpc_skip ?_)
  try simp only [↓stU, stD, reduceEqDiff, ↓reduceIte, ↓stV, stW, Nat.reduceAdd]
  have hE : pathE g l pr s = if s < 0 ∨ chsN g l pr ≤ s then 2 else 0 := by unfold pathE; rw [if_neg (fun h => h h1)]
  refine wss ?_
  by_cases hneg : s < 0
  · rw [if_pos (.inl hneg)] at hE
    simp only [↓stU, stD, reduceEqDiff, ↓reduceIte, ↓stV, stW, Nat.reduceAdd, decide_eq_true hneg]
    refine wpc_yes (by simp only [↓stU, stD, reduceEqDiff, ↓reduceIte, ↓stV, stW, Nat.reduceAdd]) ?_
    refine wsr ?_
    simp only [↓stU, stD, reduceEqDiff, ↓reduceIte, ↓stV, stW, Nat.reduceAdd]
    refine wpc_ret ?_
    simp only [↓stU, stD, reduceEqDiff, ↓reduceIte, ↓stV, stW, Nat.reduceAdd]
    exact ⟨sX, .nilsl, by rw [hE], fun _ => rfl, fun h => by rw [hE] at h; cases h⟩
  by_cases hge : chsN g l pr ≤ s
  · rw [if_pos (.inr hge)] at hE
    simp only [↓stU, stD, reduceEqDiff, ↓reduceIte, ↓stV, stW, Nat.reduceAdd, decide_eq_false hneg]
    refine wpc_yes (by simp only [↓stU, stD, reduceEqDiff, ↓reduceIte, ↓stV, stW, Nat.reduceAdd, decide_eq_true hge]) ?_
    refine wsr ?_
    simp only [↓stU, stD, reduceEqDiff, ↓reduceIte, ↓stV, stW, Nat.reduceAdd]
    refine wpc_ret ?_
    simp only [↓stU, stD, reduceEqDiff, ↓reduceIte, ↓stV, stW, Nat.reduceAdd]
    exact ⟨sX, .nilsl, by rw [hE], fun _ => rfl, fun h => by rw [hE] at h; cases h⟩
  rw [if_neg (by omega)] at hE
  simp only [↓stU, stD, reduceEqDiff, ↓reduceIte, ↓stV, stW, Nat.reduceAdd, decide_eq_false hneg]
  refine wpc_non (by simp only [↓stU, stD, reduceEqDiff, ↓reduceIte, ↓stV, stW, Nat.reduceAdd, decide_eq_false hge]) (wpc_skip ?_)
  try simp only [↓stU, stD, reduceEqDiff, ↓reduceIte, ↓stV, stW, Nat.reduceAdd]
  obtain ⟨h0, hch⟩ := chsR_zero h1
  have G := goodK_of h0
  obtain ⟨hlen, hok⟩ := chsE_zero hch
  obtain ⟨n, rfl⟩ : ∃ n : Nat, s = (n : Int) := ⟨s.toNat, by omega⟩
  have hN1 := G.good.n1
  have hN2 := G.good.n2
  have lgX : S.nx < X.nx := Nat.lt_of_lt_of_le (show S.nx < S1.nx by omega) hX.1
  refine wsr ?_
  simp only [↓stU, stD, reduceEqDiff, ↓reduceIte, ↓stV, stW, Nat.reduceAdd]
  refine wsr ?_
  simp only [↓stU, stD, reduceEqDiff, ↓reduceIte, Nat.reduceAdd]
  refine wpo_al (evA_one (n := 0) (k := .i64) (by first | rfl | simp only [↓stU, stD, reduceEqDiff, ↓reduceIte, Nat.reduceAdd])) ?_
  intro X2 x2 m2 g2
  simp only [↓stU, stD, reduceEqDiff, ↓reduceIte, Nat.reduceAdd]
  refine wpc_seq (wpc_mono (Q := fun o A' Z => o = .normal ∧ A'.inr = false ∧ Same S Z ∧ IsSl .i64 Z (tmpV 11 A'.F) (pathL g (decF cv l) g.nodes.length 0 n)) (wpc_block (wpc_loop (XpI S X S.nx (some (.cells [.int .i64 g.players, nv, iv] false 0)) cv g l (pathL g (decF cv l) g.nodes.length 0 n)) ?_ g.nodes.length _ _ ⟨rfl, sX.trans x2, x2, (x2.2 _ lgX).trans cX, 0, n, [], .sl X.nx 0 1 1 false, hN1, by omega, by omega, rfl, Nat.le_refl _, .inl ⟨X.nx, 0, rfl, rfl, Nat.le_refl _, by omega, g2⟩, by simp only [↓stU, stD, reduceEqDiff, ↓reduceIte, Nat.reduceAdd], by simp only [↓stU, stD, reduceEqDiff, ↓reduceIte, Nat.reduceAdd], by simp only [↓stU, stD, reduceEqDiff, ↓reduceIte, Nat.reduceAdd], by first | rfl | simp only [↓stU, stD, reduceEqDiff, ↓reduceIte, Nat.reduceAdd], by simp only [↓stU, stD, reduceEqDiff, ↓reduceIte, Nat.reduceAdd]⟩)) ?_)
  rotate_left
  · rintro o ⟨F, inr⟩ Z ⟨rfl, q0, hZ, hr⟩
    simp only at q0 hr
    subst q0
    generalize hpv : tmpV 11 F = pv at hr
    try simp only [↓stU, stD, reduceEqDiff, ↓reduceIte, ↓stV, stW, Nat.reduceAdd]
    refine wsr ?_
    simp only [↓stU, stD, reduceEqDiff, ↓reduceIte, ↓stV, stW, Nat.reduceAdd, hpv]
    refine wpc_ret ?_
    simp only [↓stU, stD, reduceEqDiff, ↓reduceIte, ↓stV, stW, Nat.reduceAdd]
    exact ⟨hZ, pv, by rw [hE], fun h => absurd hE h, fun _ => by rw [Int.toNat_natCast]; exact hr⟩
  clear x2 m2 g2 cX
  rintro k ⟨F, inr⟩ V ⟨q0, hV, xV, cV, i, s, p, pv, hlt, hNk, hss, htot, hpl, hout, p1, p2, p3, p10, p11⟩
  simp only at q0 p1 p2 p3 p10 p11
  subst q0
  have lgV : S.nx < V.nx := Nat.lt_of_lt_of_le lgX xV.1
  obtain ⟨k, rfl⟩ : ∃ k', k = k' + 1 := ⟨k - 1, by omega⟩
  obtain ⟨_, bx, qx, hiax, hbx, _, ⟨xa, xw, xp, rfl, hxa, hxw, hxp⟩, hldx, hfx⟩ := IsSlG.at (IsSlG.same (E := NodeE) firm_node hn hV) (by decide) (nodeAt_some hlt)
  have l0 := hfx 0 _ rfl
  refine wss ?_
  simp only [↓stU, stD, reduceEqDiff, ↓reduceIte, ↓stV, stW, Nat.reduceAdd, p3, p10, evQ_faddr, faddr_ptr, lg3_1 cV, natOf_cast, hiax, l0]
  by_cases hk3 : (nodeAt g i).kind = 3
  · rw [pathL_end hk3] at htot
    refine wpc_non (by simp only [↓stU, stD, reduceEqDiff, ↓reduceIte, ↓stV, stW, Nat.reduceAdd, decide_eq_false (show ¬ (nodeAt g i).kind ≠ 3 from fun h => h hk3)]) (wpc_exit ?_)
    simp only [↓stU, stD, reduceEqDiff, ↓reduceIte, ↓stV, stW, Nat.reduceAdd, p11]
    rw [htot]
    exact ⟨hV, hout.is⟩
  refine wpc_yes (by simp only [↓stU, stD, reduceEqDiff, ↓reduceIte, ↓stV, stW, Nat.reduceAdd, decide_eq_true (show (nodeAt g i).kind ≠ 3 from hk3)]) (wpc_skip ?_)
  try simp only [↓stU, stD, reduceEqDiff, ↓reduceIte, ↓stV, stW, Nat.reduceAdd]
  refine wpc_block (wpc_seq (wpc_reg ?_))
  simp only [↓stU, stD, reduceEqDiff, ↓reduceIte, Nat.reduceAdd, p3, p10, evQ_faddr, faddr_ptr, lg3_1 cV, natOf_cast, hiax, hldx]
  refine wpo_alloc ?_
  intro W1 v1 k1 h1'
  refine wpo_st (b := V.nx) (by simp only [↓stU, stD, reduceEqDiff, ↓reduceIte, Nat.reduceAdd]) (by simp only [↓stU, stD, reduceEqDiff, ↓reduceIte, Nat.reduceAdd]; exact cells_agg _) h1' rfl rfl ?_
  intro W v2 k2 h2
  simp only [↓stU, stD, reduceEqDiff, ↓reduceIte, Nat.reduceAdd]
  have sVW : Same V W := v2.same v1 (Nat.le_refl _)
  have sW := hV.trans sVW
  have lxW : V.nx < W.nx := by omega
  have hcW := hc.same sW
  have scv := IsSl.self hc
  have sxa := IsSl.self hxa
  have sxw := IsSl.self hxw
  have hxaW := hxa.same sVW
  -- the next node
  refine wpc_seq (wpc_mono (Q := fun o A' Z => o = .normal ∧ A'.inr = false ∧ Same W Z ∧ tmpV 1 A'.F = cv ∧ tmpV 3 A'.F = .ptr S.nx 0 ∧ tmpV 11 A'.F = pv ∧ ∃ i' s' : Nat, i < i' ∧ i' < g.nodes.length ∧ s' ≤ 9223372036854775807 ∧ pathL g (decF cv l) (k + 1) i s = (i : Int) :: pathL g (decF cv l) k i' s' ∧ tmpV 2 A'.F = .int .i64 (s' : Int) ∧ tmpV 10 A'.F = .int .i64 (i' : Int)) (wpc_seq (wpc_reg ?_)) ?_)
  · simp only [↓stU, stD, reduceEqDiff, ↓reduceIte, ↓stV, stW, Nat.reduceAdd, evQ_faddr, faddr_ptr, ld6_0 h2]
    by_cases hk2 : (nodeAt g i).kind = 2
    · have hst := pathL_move (v := cv) (l := l) (k := k) (s := s) hk2
      obtain ⟨a1, a2, a3⟩ := G.good.inf i hlt hk2
      have hil : (nodeAt g i).info.toNat < l.length := by omega
      have hcc := hok _ hil
      unfold okC at hcc
      rw [show (((nodeAt g i).info.toNat : Nat) : Int) = (nodeAt g i).info by omega, a3] at hcc
      have hjl : (l.getD (nodeAt g i).info.toNat 0).toNat < (nodeAt g i).next.length := by omega
      obtain ⟨hr1, hr2⟩ := G.good.kids i hlt _ hjl
      have n1' := natOf_nn (k := .i64) a1
      have n2' := natOf_nn (k := .i64) hcc.1
      have ia := hcW.iaddr hil
      have la := hcW.ld hil
      have ib := hxaW.iaddr hjl
      have lb := hxaW.ld hjl
      refine wpc_yes (by simp only [↓stU, stD, reduceEqDiff, ↓reduceIte, ↓stV, stW, Nat.reduceAdd, decide_eq_true hk2]) ?_
      refine wpc_drq ?_
      simp only [↓stU, stD, reduceEqDiff, ↓reduceIte, ↓stV, stW, Nat.reduceAdd, p1, evQ_faddr, isLoad_faddr, faddr_ptr, ld6_3 h2, ld6_2 h2, sxa, scv, n1', n2', ia, la, ib, lb]
      generalize (nodeAt g i).next.getD (l.getD (nodeAt g i).info.toNat 0).toNat 0 = c at *
      exact ⟨Same.nx _ _, by simp only [↓stU, stD, reduceEqDiff, ↓reduceIte, ↓stV, stW, Nat.reduceAdd, p3], by simp only [↓stU, stD, reduceEqDiff, ↓reduceIte, ↓stV, stW, Nat.reduceAdd, p11], c.toNat, s, by omega, by omega, hss, hst, by simp only [↓stU, stD, reduceEqDiff, ↓reduceIte, ↓stV, stW, Nat.reduceAdd, p2], by (try simp only [↓stU, stD, reduceEqDiff, ↓reduceIte, ↓stV, stW, Nat.reduceAdd]); rw [Int.toNat_of_nonneg (by omega)]⟩
    · have hk1 : (nodeAt g i).kind = 1 := by
        rcases G.knd i hlt with h | h | h
        · exact h
        · exact absurd h hk2
        · exact absurd h hk3
      have hst := pathL_chance (D := decF cv l) (k := k) (s := s) hk1
      obtain ⟨hsm, hs1⟩ := G.small hlt hk1
      have hall := hsm.all
      have hwl := G.good.wts i hlt hk1
      refine wpc_non (by simp only [↓stU, stD, reduceEqDiff, ↓reduceIte, ↓stV, stW, Nat.reduceAdd, decide_eq_false hk2]) ?_
      refine wsr ?_
      simp only [↓stU, stD, reduceEqDiff, ↓reduceIte, ↓stV, stW, Nat.reduceAdd, evQ_faddr, faddr_ptr, ld6_4 h2]
      refine wpo_call ?_
      simp only [↓stU, stD, reduceEqDiff, ↓reduceIte, ↓stV, stW, Nat.reduceAdd]
      refine wpf_mono (xsum_spec H (hxw.same sVW) hsm) ?_
      rintro _ Z ⟨rfl, hZ⟩
      try simp only [↓stU, stD, reduceEqDiff, ↓reduceIte, ↓stV, stW, Nat.reduceAdd]
      have h2Z := (hZ.2 _ lxW).trans h2
      have hrd : (nodeAt g i).weights.sum = (((nodeAt g i).weights.sum.toNat : Nat) : Int) := (Int.toNat_of_nonneg (by omega)).symm
      generalize hR : (nodeAt g i).weights.sum.toNat = R at *
      have hpos : 0 < R := by omega
      have hrem := bin_rem_nat (.p .int) .i64 (t := s) (d := R) hpos
      have hml : s % R < R := Nat.mod_lt _ hpos
      have hcl : pickN (nodeAt g i).weights ((s % R : Nat) : Int) < (nodeAt g i).next.length := by
        rw [← hwl]
        exact pickN_lt (by omega) (by omega)
      have lxZ : V.nx < Z.nx := Nat.lt_of_lt_of_le lxW hZ.1
      refine wpc_seq (wpc_drd1 (fun _ => False) ?_)
      intro Z5 z5
      simp only [↓stU, stD, reduceEqDiff, ↓reduceIte, ↓stV, stW, Nat.reduceAdd, p2, evQ_faddr, isLoad_faddr, faddr_ptr, ld6_3 h2Z, ld6_4 h2Z, lxZ, not_false_eq_true, sxa, sxw, hrd, hrem]
      refine runD_call0 rfl ?_
      simp only [↓stU, stD, reduceEqDiff, ↓reduceIte, ↓stV, stW, Nat.reduceAdd]
      refine wpf_mono (child_spec H ((hxw.same sVW).same (hZ.trans z5)) hsm (by omega) (by omega)) ?_
      rintro _ Z6 ⟨rfl, z6⟩
      refine ⟨z6, ?_⟩
      have s6 := (hZ.trans z5).trans z6
      have hxa4 := hxaW.same hZ
      have ia := hxa4.iaddr hcl
      have la := hxa4.ld hcl
      obtain ⟨b1, o1, hp1, lb1⟩ := IsSl.place hxa4 hcl
      rw [hp1] at ia la
      obtain ⟨hr1, hr2⟩ := G.good.kids i hlt _ hcl
      simp only [↓stU, stD, reduceEqDiff, ↓reduceIte, ↓stV, stW, Nat.reduceAdd, natOf_cast, ia, la, lb1, not_false_eq_true]
      have hq := bin_quo_i (.p .int) (a := ((s : Nat) : Int)) (b := ((R : Nat) : Int)) (by omega) (by omega) (by omega)
      have hq' : ((s : Nat) : Int) / ((R : Nat) : Int) = ((s / R : Nat) : Int) := rfl
      rw [hq'] at hq
      have hdl : s / R ≤ s := Nat.div_le_self ..
      refine wpc_reg ?_
      simp only [↓stU, stD, reduceEqDiff, ↓reduceIte, ↓stV, stW, Nat.reduceAdd, p2, hrd, hq]
      generalize (nodeAt g i).next.getD (pickN (nodeAt g i).weights ((s % R : Nat) : Int)) 0 = c at *
      exact ⟨s6, by simp only [↓stU, stD, reduceEqDiff, ↓reduceIte, ↓stV, stW, Nat.reduceAdd, p1], by simp only [↓stU, stD, reduceEqDiff, ↓reduceIte, ↓stV, stW, Nat.reduceAdd, p3], by simp only [↓stU, stD, reduceEqDiff, ↓reduceIte, ↓stV, stW, Nat.reduceAdd, p11], c.toNat, s / R, by omega, by omega, by omega, hst, by simp only [↓stU, stD, reduceEqDiff, ↓reduceIte, ↓stV, stW, Nat.reduceAdd], by (try simp only [↓stU, stD, reduceEqDiff, ↓reduceIte, ↓stV, stW, Nat.reduceAdd]); rw [Int.toNat_of_nonneg (by omega)]⟩
  rintro o ⟨F, inr⟩ Z ⟨rfl, q0, hZ, p1, p3, p11, i', s', hi1, hi2, hs', hst, p2, p10⟩
  simp only at q0 p1 p2 p3 p10 p11
  subst q0
  try simp only [↓stU, stD, reduceEqDiff, ↓reduceIte, ↓stV, stW, Nat.reduceAdd]
  rw [hst] at htot
  have sVZ := sVW.trans hZ
  have outZ := hout.step sVZ
  refine wpc_reg ?_
  simp only [↓stU, stD, reduceEqDiff, ↓reduceIte, Nat.reduceAdd, p10, p11]
  refine wpo_al (evA_one (n := (i' : Int)) (k := .i64) (by simp only [↓stU, stD, reduceEqDiff, ↓reduceIte, Nat.reduceAdd])) ?_
  intro U u1 m1 g1
  have e1 : (p ++ [(i : Int)]).length = p.length + 1 := by simp
  have xU := (xV.trans sVZ).trans u1
  obtain ⟨pv', U', eA, gA, nA, rA⟩ := OutR.push (bytes := 8) (outZ.step u1) xU g1 (by rw [e1]; unfold room; omega) (by rw [e1]; unfold room; omega)
  refine wpo_x (fun call => by simp only [↓stU, stD, reduceEqDiff, ↓reduceIte, Nat.reduceAdd, evX_app]; exact eA) ?_
  simp only [↓stU, stD, reduceEqDiff, ↓reduceIte, Nat.reduceAdd]
  have hb : ∀ {c}, blkOf pv = some c → X.nx ≤ c := fun hc => (outZ.blk hc).1
  have keep : ∀ c, c < X.nx → U'.h.get c = U.h.get c := fun c hc => rA c (Nat.lt_of_lt_of_le hc xU.1) (fun e => by have := hb e; omega)
  have nU : X.nx ≤ U'.nx := by have := xU.1; omega
  exact ⟨k, by omega, rfl, ⟨Nat.le_trans sX.1 nU, fun c hc => (keep c (Nat.lt_of_lt_of_le hc sX.1)).trans (((hV.trans sVZ).trans u1).2 c hc)⟩, ⟨nU, fun c hc => (keep c hc).trans (xU.2 c hc)⟩, (keep _ lgX).trans (((sVZ.trans u1).2 _ lgV).trans cV), i', s', p ++ [(i : Int)], pv', hi2, by omega, hs', by rw [htot, List.append_assoc]; rfl, by rw [e1]; omega, gA, by first | (simp only [↓stU, stD, reduceEqDiff, ↓reduceIte, Nat.reduceAdd, p1]; done) | rfl | assumption, by first | (simp only [↓stU, stD, reduceEqDiff, ↓reduceIte, Nat.reduceAdd, p2]; done) | rfl | assumption, by first | (simp only [↓stU, stD, reduceEqDiff, ↓reduceIte, Nat.reduceAdd, p3]; done) | rfl | assumption, by first | (simp only [↓stU, stD, reduceEqDiff, ↓reduceIte, Nat.reduceAdd, p10]; done) | rfl | assumption, by first | (simp only [↓stU, stD, reduceEqDiff, ↓reduceIte, Nat.reduceAdd]; done) | rfl | assumption⟩
end Go.Ev.Gl

namespace Go.Ev.Gl
variable {fns : T AFn}

/-! ## A list behind an empty one: a copy of one's own -/
def Int1 (_ : St) (cs : List AV) (x : Int) : Prop := cs = [.int .i64 x]
theorem firm_int1 : Firm Int1 := fun h _ => h
theorem toG {S : St} {v : AV} {l : List Int} (h : IsSl .i64 S v l) : IsSlG 1 Int1 S v l := by
  rcases h with h | ⟨b, off, cap, o, cs, rfl, hc, hb, hcs, hel⟩
  · exact .inl h
  · refine .inr ⟨b, off, cap, o, cs, rfl, hc, hb, hcs, fun i a hi => ⟨[.int .i64 a], rfl, fun j x hj => ?_, rfl⟩⟩
    cases j with
    | zero => simp at hj; subst hj; rw [Nat.mul_one, Nat.add_zero]; exact hel i a hi
    | succ j => simp at hj
theorem ofG {S : St} {v : AV} {l : List Int} (h : IsSlG 1 Int1 S v l) : IsSl .i64 S v l := by
  rcases h with h | ⟨b, off, cap, o, cs, rfl, hc, hb, hcs, hel⟩
  · exact .inl h
  · refine .inr ⟨b, off, cap, o, cs, rfl, hc, hb, hcs, fun i a hi => ?_⟩
    obtain ⟨e, _, h2, h3⟩ := hel i a hi
    have h3 : e = [.int .i64 a] := h3
    subst h3
    have := h2 0 _ rfl
    rw [Nat.mul_one, Nat.add_zero] at this
    exact this
theorem IsSlG.moveB {k : Nat} {α : Type} {E : St → List AV → α → Prop} {S S' : St} {v : AV} {l : List α} (h : IsSlG k E S v l) (hn : S.nx ≤ S'.nx) (hh : ∀ c, blkOf v = some c → S'.h.get c = S.h.get c) (hE : ∀ e a, E S e a → E S' e a) : IsSlG k E S' v l := by
  rcases h with h | ⟨b, off, cap, o, cs, rfl, hc, hb, hcs, hel⟩
  · exact .inl h
  · refine .inr ⟨b, off, cap, o, cs, rfl, hc, Nat.lt_of_lt_of_le hb hn, ?_, fun i a hi => ?_⟩
    · unfold cellsAt
      rw [hh b rfl]
      exact hcs
    · obtain ⟨e, e1, e2, e3⟩ := hel i a hi
      exact ⟨e, e1, e2, hE e a e3⟩
theorem srcG {k : Nat} {α : Type} {E : St → List AV → α → Prop} {S : St} {v : AV} {l : List α} (hk : 0 < k) (h : IsSlG k E S v l) : ∃ new, lenOfV v = some l.length ∧ srcCells v S.h k l.length = some new ∧ ∀ i a, l[i]? = some a → ∃ e : List AV, e.length = k ∧ (∀ (j : Nat) (x : AV), e[j]? = some x → new[i * k + j]? = some x) ∧ E S e a := by
  rcases h with ⟨rfl, h⟩ | ⟨b, off, cap, o, cs, rfl, hc, hb, hcs, hel⟩
  · rcases h with rfl | rfl <;> exact ⟨[], rfl, rfl, fun i a hi => by simp at hi⟩
  · rcases Nat.eq_zero_or_pos l.length with h0 | hp
    · have hl : l = [] := List.length_eq_zero_iff.1 h0
      subst hl
      refine ⟨[], rfl, ?_, fun i a hi => by simp at hi⟩
      show (osel (cellsAt S.h b) fun cs => cut cs off (0 * k)) = _
      rw [hcs, osel_some, Nat.zero_mul]
      unfold cut
      rw [takeL_eq, dropL_eq, if_pos (Nat.zero_le _)]
      rfl
    · have hle : off + l.length * k ≤ cs.length := by
        obtain ⟨e, e1, e2, _⟩ := hel (l.length - 1) _ (List.getElem?_eq_getElem (by omega))
        have := e2 (k - 1) _ (List.getElem?_eq_getElem (by omega))
        have h3 := (List.getElem?_eq_some_iff.1 this).1
        have h4 : (l.length - 1) * k + k = l.length * k := by
          rw [← Nat.succ_mul]
          congr 1
          omega
        omega
      refine ⟨(cs.drop off).take (l.length * k), rfl, ?_, fun i a hi => ?_⟩
      · show (osel (cellsAt S.h b) fun cs => cut cs off (l.length * k)) = _
        rw [hcs, osel_some]
        unfold cut
        rw [takeL_eq, dropL_eq, if_pos (by rw [List.length_drop]; omega)]
      · obtain ⟨e, e1, e2, e3⟩ := hel i a hi
        refine ⟨e, e1, fun j x hj => ?_, e3⟩
        have hlt := (List.getElem?_eq_some_iff.1 hi).1
        have hj1 := (List.getElem?_eq_some_iff.1 hj).1
        have h5 : i * k + k ≤ l.length * k := by
          rw [← Nat.succ_mul]
          exact Nat.mul_le_mul_right k hlt
        rw [List.getElem?_take_of_lt (by omega), List.getElem?_drop]
        have := e2 j x hj
        rw [Nat.add_assoc] at this
        exact this
/-- a list behind an empty one -/
theorem app_cp {k bytes b : Nat} {α : Type} {E : St → List AV → α → Prop} {S : St} {v : AV} {l : List α} (hE : Firm E) (hk : 0 < k) (hb : S.h.get b = some (.cells [] false 0)) (hbl : b < S.nx) (h : IsSlG k E S v l) (h1 : l.length ≤ room) (h2 : l.length * bytes ≤ room) :
    ∃ r S', appendV bytes k (.sl b 0 0 0 false) v S = some (r, S') ∧ IsSlG k E S' r l ∧ Same S S' ∧ ∀ c, blkOf r = some c → c = b ∨ S.nx ≤ c := by
  obtain ⟨new, e1, e2, e3⟩ := srcG hk h
  unfold appendV
  rw [e1, osel_some, e2, osel_some]
  show ∃ r S', appSl bytes k b 0 0 0 false l.length new S = some (r, S') ∧ _
  unfold appSl
  rcases Nat.eq_zero_or_pos l.length with h0 | hp
  · have hl : l = [] := List.length_eq_zero_iff.1 h0
    subst hl
    refine ⟨.sl b 0 0 0 false, S, rfl, .inr ⟨b, 0, 0, false, [], rfl, Nat.le_refl _, hbl, by unfold cellsAt; rw [hb]; rfl, fun i a hi => by simp at hi⟩, Same.refl S, fun c hc => ?_⟩
    cases hc
    exact .inl rfl
  · have e5 : Nat.ble (0 + l.length) 0 = false := by
      rw [Bool.eq_false_iff]; intro e; have := Nat.le_of_ble_eq_true e; omega
    rw [e5, bsel_false, Nat.ble_eq_true_of_le (by omega), bsel_true, Nat.ble_eq_true_of_le (by rw [Nat.zero_add]; exact h2), bsel_true, hb, osel_some]
    have e4 : cut ([] : List AV) 0 (0 * k) = some [] := by
      unfold cut
      rw [takeL_eq, dropL_eq, Nat.zero_mul, if_pos (Nat.zero_le _)]
      rfl
    show ∃ r S', (osel (cut ([] : List AV) 0 (0 * k)) fun old => bsel false _ (grown S.h S.nx (0 + l.length) k (appL old new))) = some (r, S') ∧ _
    rw [e4, osel_some, bsel_false]
    refine ⟨_, _, rfl, .inr ⟨S.nx, 0, l.length, true, new, by rw [Nat.zero_add], Nat.le_refl _, by simp, ?_, fun i a hi => ?_⟩, Same.alloc S _, fun c hc => ?_⟩
    · unfold cellsAt
      simp only
      rw [T.get_set, if_pos rfl]
      rfl
    · obtain ⟨e, a1, a2, a3⟩ := e3 i a hi
      exact ⟨e, a1, fun j x hj => by rw [Nat.zero_add]; exact a2 j x hj, hE a3 (Same.alloc S _)⟩
    · cases hc
      exact .inr (Nat.le_refl _)
theorem clone64_spec {S : St} {v : AV} {l : List Int} (H : Has fns) (h : IsSl .i64 S v l) (hl : l.length ≤ 10000000) : wpf fns (.fn 92 [] []) [v] S fun r X => IsSl .i64 X r l ∧ Same S X := by
  refine wpf_fn H.f92 (by simp) ?_
  simp only [↓stU, stD, reduceEqDiff, ↓reduceIte, ↓stV, stW, Nat.reduceAdd]
  refine wsr ?_
  simp only [↓stU, stD, reduceEqDiff, ↓reduceIte, ↓stV, stW, Nat.reduceAdd]
  by_cases hv : v = .nilsl
  · have hl0 : l = [] := by
      rcases h with ⟨h, _⟩ | ⟨b, off, cap, o, cs, rfl, _⟩
      · exact h
      · cases hv
    subst hv
    subst hl0
    have he : binV .eql (.p .slice) .nilsl .nilsl = some (.bool true) := rfl
    refine wss ?_
    simp only [↓stU, stD, reduceEqDiff, ↓reduceIte, ↓stV, stW, Nat.reduceAdd, he]
    refine wpc_yes (by simp only [↓stU, stD, reduceEqDiff, ↓reduceIte, ↓stV, stW, Nat.reduceAdd]) ?_
    refine wsr ?_
    simp only [↓stU, stD, reduceEqDiff, ↓reduceIte, ↓stV, stW, Nat.reduceAdd]
    refine wpc_ret ?_
    simp only [↓stU, stD, reduceEqDiff, ↓reduceIte, ↓stV, stW, Nat.reduceAdd]
    exact ⟨.inl ⟨rfl, .inl rfl⟩, Same.refl S⟩
  · have he : binV .eql (.p .slice) v .nilsl = some (.bool false) := by
      rcases h with ⟨_, rfl | rfl⟩ | ⟨b, off, cap, o, cs, rfl, _⟩
      · exact absurd rfl hv
      · rfl
      · rfl
    refine wss ?_
    simp only [↓stU, stD, reduceEqDiff, ↓reduceIte, ↓stV, stW, Nat.reduceAdd, he]
    refine wpc_non (by simp only [↓stU, stD, reduceEqDiff, ↓reduceIte, ↓stV, stW, Nat.reduceAdd]) (wpc_skip ?_)
    try simp only [↓stU, stD, reduceEqDiff, ↓reduceIte, ↓stV, stW, Nat.reduceAdd]
    refine wsr ?_
    refine wpo_al evA_none ?_
    intro S1 s1 n1 g1
    simp only [↓stU, stD, reduceEqDiff, ↓reduceIte, Nat.reduceAdd]
    obtain ⟨r, S2, e, hr, s2, _⟩ := app_cp (bytes := 8) (E := Int1) (l := l) firm_int1 Nat.one_pos g1 (by omega) (toG (h.same s1)) (by unfold room; omega) (by unfold room; omega)
    refine wpo_x (fun call => by simp only [↓stU, stD, reduceEqDiff, ↓reduceIte, Nat.reduceAdd, evX_app]; exact e) ?_
    simp only [↓stU, stD, reduceEqDiff, ↓reduceIte, Nat.reduceAdd]
    refine wpc_ret ?_
    simp only [↓stU, stD, reduceEqDiff, ↓reduceIte, Nat.reduceAdd]
    exact ⟨ofG hr, s1.trans s2⟩
end Go.Ev.Gl

namespace Go.Ev.Gl
variable {fns : T AFn}

/-! ## The pay of a play, of both sides -/
theorem path_val {g : PGame} {v w : AV} {l : List Int} : ∀ {k i s : Nat}, pathL g (decF v l) k i s = pathL g (decF w l) k i s
  | 0, _, _ => rfl
  | k + 1, i, s => by
    have h1 : (decAt (decF v l) (nodeAt g i)).rad (nodeAt g i) = (decAt (decF w l) (nodeAt g i)).rad (nodeAt g i) := by unfold decAt; split <;> rfl
    have h2 : ∀ d, (decAt (decF v l) (nodeAt g i)).chs (nodeAt g i) d = (decAt (decF w l) (nodeAt g i)).chs (nodeAt g i) d := fun d => by unfold decAt; split <;> rfl
    simp only [pathL, h1, h2, path_val (v := v) (w := w) (k := k)]
theorem path_all {S : St} {g : PGame} {D : Dec} (H : Has fns) (G : GoodK g) (hD : ∀ i, i < g.nodes.length → (nodeAt g i).kind = 2 → DecH fns S D (nodeAt g i)) : ∀ {k i s : Nat}, i < g.nodes.length → g.nodes.length ≤ k + i → 1 ≤ (pathL g D k i s).length ∧ (pathL g D k i s).length ≤ k ∧ (∀ j, j < (pathL g D k i s).length → 0 ≤ (pathL g D k i s).getD j 0 ∧ (pathL g D k i s).getD j 0 < g.nodes.length) ∧ (nodeAt g ((pathL g D k i s).getD ((pathL g D k i s).length - 1) 0).toNat).kind = 3
  | 0, i, s, hi, hk => by omega
  | k + 1, i, s, hi, hk => by
    simp only [pathL]
    split
    · rename_i hk3
      refine ⟨by simp, by simp, fun j hj => ?_, by simpa using hk3⟩
      have : j = 0 := by simpa using hj
      subst this
      simp only [List.getD_cons_zero]
      omega
    · rename_i hk3
      have hDA : DecH fns S (decAt D (nodeAt g i)) (nodeAt g i) := by
        unfold decAt
        split
        · rename_i h; exact decC_h H G hi h
        · rename_i h
          rcases G.knd i hi with h4 | h4 | h4
          · exact absurd h4 h
          · exact hD i hi h4
          · exact absurd h4 hk3
      obtain ⟨b1, b2⟩ := G.good.kids i hi _ (hDA.lt _ (Nat.mod_lt s hDA.pos))
      generalize (nodeAt g i).next.getD ((decAt D (nodeAt g i)).chs (nodeAt g i) (s % (decAt D (nodeAt g i)).rad (nodeAt g i))) 0 = c at *
      obtain ⟨c1, c2, c3, c4⟩ := path_all (s := s / (decAt D (nodeAt g i)).rad (nodeAt g i)) H G hD (k := k) (i := c.toNat) (by omega) (by omega)
      refine ⟨by simp, by simp only [List.length_cons]; omega, fun j hj => ?_, ?_⟩
      rotate_left
      · rw [List.length_cons, Nat.add_sub_cancel]
        generalize pathL g D k c.toNat _ = L at *
        obtain ⟨n, hn⟩ : ∃ n, L.length = n + 1 := ⟨L.length - 1, by omega⟩
        rw [hn, List.getD_cons_succ]
        rw [hn, Nat.add_sub_cancel] at c4
        exact c4
      cases j with
      | zero => simp only [List.getD_cons_zero]; omega
      | succ j => simp only [List.getD_cons_succ]; exact c3 j (by simpa using hj)
def pathC (g : PGame) (l : List Int) (s : Int) : List Int := pathL g (decF .nilsl l) g.nodes.length 0 s.toNat
def payL (g : PGame) (l : List Int) (s : Int) : List Int := (nodeAt g ((pathC g l s).getD ((pathC g l s).length - 1) 0).toNat).pay
def PayR (S : St) (g : PGame) (l : List Int) (pr : Nat → Nat) (s : Int) (r : AV) (X : St) : Prop := Same S X ∧ ∃ x, r = .tup [x, .int .i64 (pathE g l pr s)] ∧ (pathE g l pr s ≠ 0 → x = .nilsl) ∧ (pathE g l pr s = 0 → IsSl .i64 X x (payL g l s))
/-- what a play is where there is one -/
theorem path_facts {S : St} {v : AV} {g : PGame} {l : List Int} {pr : Nat → Nat} {s : Int} (H : Has fns) (hc : IsSl .i64 S v l) (h : pathE g l pr s = 0) : GoodK g ∧ pathL g (decF v l) g.nodes.length 0 s.toNat = pathC g l s ∧ 1 ≤ (pathC g l s).length ∧ (pathC g l s).length ≤ 100000 ∧ (∀ j, j < (pathC g l s).length → 0 ≤ (pathC g l s).getD j 0 ∧ (pathC g l s).getD j 0 < g.nodes.length) ∧ (payL g l s).length ≤ 10000000 := by
  obtain ⟨h1, _, _⟩ := pathE_zero h
  obtain ⟨h0, hch⟩ := chsR_zero h1
  have G := goodK_of h0
  obtain ⟨hlen, hok⟩ := chsE_zero hch
  have e : pathL g (decF v l) g.nodes.length 0 s.toNat = pathC g l s := path_val
  obtain ⟨a, b, c, d⟩ := path_all (s := s.toNat) H G (fun i hi hk => decF_h H G hc hlen hok hi hk) (k := g.nodes.length) G.good.n1 (by omega)
  rw [e] at a b c d
  have := G.good.n2
  have hlt := c _ (show (pathC g l s).length - 1 < (pathC g l s).length by omega)
  have hpp := G.pay _ (by omega) d
  have := G.prs
  exact ⟨G, e, a, by omega, c, by unfold payL; omega⟩
set_option maxHeartbeats 4000000 in
theorem pay_spec {S : St} {nv iv cv : AV} {g : PGame} {l : List Int} {pr : Nat → Nat} {s : Int} (H : Has fns) (hn : IsSlG 6 NodeE S nv g.nodes) (hi : IsSlG 2 InfoE S iv g.infos) (hc : IsSl .i64 S cv l) (hln : g.nodes.length ≤ 100000) (hll : l.length ≤ 10000000) (hs : s ≤ 9223372036854775807) (hpr : formE g = 0 → Prods g pr) :
    wpf fns (.fn 44 [] []) [.agg [.int .i64 g.players, nv, iv], cv, .int .i64 s] S (PayR S g l pr s) := by
  refine wpf_fn H.f44 (by simp) ?_
  simp only [↓stU, stD, reduceEqDiff, ↓reduceIte, ↓stV, stW, Nat.reduceAdd]
  refine wsr ?_
  refine wpo_box (cs := [.int .i64 g.players, nv, iv]) rfl ?_
  intro S1 s1 n1 c1
  simp only [↓stU, stD, reduceEqDiff, ↓reduceIte, ↓stV, stW, Nat.reduceAdd]
  refine wsr ?_
  simp only [↓stU, stD, reduceEqDiff, ↓reduceIte, ↓stV, stW, Nat.reduceAdd, lg3_a c1]
  refine wpo_call ?_
  simp only [↓stU, stD, reduceEqDiff, ↓reduceIte, ↓stV, stW, Nat.reduceAdd]
  refine wpf_mono (path_spec (pr := pr) H (IsSlG.same (E := NodeE) firm_node hn s1) (IsSlG.same (E := InfoE) firm_info hi s1) (hc.same s1) hln hll hs hpr) ?_
  rintro _ X ⟨hX, x, rfl, hx1, hx0⟩
  have sX := s1.trans hX
  have lgX : S.nx < X.nx := Nat.lt_of_lt_of_le (show S.nx < S1.nx by omega) hX.1
  have cX := (hX.2 _ (show S.nx < S1.nx by omega)).trans c1
  simp only [↓stU, stD, reduceEqDiff, ↓reduceIte, ↓stV, stW, Nat.reduceAdd, ex0, ex1]
  refine wss ?_
  simp only [↓stU, stD, reduceEqDiff, ↓reduceIte, ↓stV, stW, Nat.reduceAdd]
  by_cases h1 : pathE g l pr s = 0
  rotate_left
  · refine wpc_yes (by simp only [↓stU, stD, reduceEqDiff, ↓reduceIte, ↓stV, stW, Nat.reduceAdd, decide_eq_true (show pathE g l pr s ≠ 0 from h1)]) ?_
    refine wsr ?_
    simp only [↓stU, stD, reduceEqDiff, ↓reduceIte, ↓stV, stW, Nat.reduceAdd]
    refine wpc_ret ?_
    simp only [↓stU, stD, reduceEqDiff, ↓reduceIte, ↓stV, stW, Nat.reduceAdd]
    exact ⟨sX, .nilsl, rfl, fun _ => rfl, fun h => absurd h h1⟩
  refine wpc_non (by simp only [↓stU, stD, reduceEqDiff, ↓reduceIte, ↓stV, stW, Nat.reduceAdd, decide_eq_false (show ¬ pathE g l pr s ≠ 0 from fun h => h h1)]) (wpc_skip ?_)
  try simp only [↓stU, stD, reduceEqDiff, ↓reduceIte, ↓stV, stW, Nat.reduceAdd]
  obtain ⟨G, he, hp1, hp2, hpa, hpl⟩ := path_facts (s := s) H hc h1
  have hx := hx0 h1
  rw [he] at hx
  have hlt : (pathC g l s).length - 1 < (pathC g l s).length := by omega
  obtain ⟨a1, a2⟩ := hpa _ hlt
  have hxl := hx.len
  have w0 : IntKind.i64.wrap (((pathC g l s).length : Nat) - 1 : Int) = (((pathC g l s).length - 1 : Nat) : Int) := by rw [wrap_i64 (by omega) (by omega)]; omega
  have ia := hx.iaddr hlt
  have la := hx.ld hlt
  obtain ⟨b1, o1, hp, lb1⟩ := IsSl.place hx hlt
  rw [hp] at ia la
  have hnn := natOf_nn (k := .i64) a1
  obtain ⟨_, bx, qx, hiax, hbx, _, ⟨xa, xw, xp, rfl, hxa, hxw, hxp⟩, hldx, hfx⟩ := IsSlG.at (IsSlG.same (E := NodeE) firm_node hn sX) (by decide) (nodeAt_some (show ((pathC g l s).getD ((pathC g l s).length - 1) 0).toNat < g.nodes.length by omega))
  have l5 := hfx 5 _ rfl
  have snv := IsSlG.self hn
  have sxp := IsSl.self hxp
  refine wpc_seq (wpc_drd1 (fun _ => False) ?_)
  intro Y sY
  simp only [↓stU, stD, reduceEqDiff, ↓reduceIte, ↓stV, stW, Nat.reduceAdd, evQ_faddr, isLoad_faddr, faddr_ptr, lg3_1 cX, lgX, not_false_eq_true, snv, hxl, Int.ofNat_eq_natCast, w0, natOf_cast, ia, la, lb1, hnn, hiax, l5, hbx, sxp]
  refine runD_call0 rfl ?_
  simp only [↓stU, stD, reduceEqDiff, ↓reduceIte, ↓stV, stW, Nat.reduceAdd]
  unfold payL at hpl
  refine wpf_mono (clone64_spec H (hxp.same sY) hpl) ?_
  rintro r Z ⟨hr, hZ⟩
  refine ⟨hZ, ?_⟩
  try simp only [↓stU, stD, reduceEqDiff, ↓reduceIte, ↓stV, stW, Nat.reduceAdd]
  refine wpc_ret ?_
  simp only [↓stU, stD, reduceEqDiff, ↓reduceIte, ↓stV, stW, Nat.reduceAdd]
  exact ⟨sX.trans (sY.trans hZ), r, by rw [h1], fun h => absurd h1 h, fun _ => hr⟩
end Go.Ev.Gl

namespace Go.Ev.Gl
variable {fns : T AFn}

/-! ## The reference's pay -/
set_option maxHeartbeats 4000000 in
theorem xpay_spec {S : St} {nv iv cv : AV} {g : PGame} {l : List Int} {pr : Nat → Nat} {s : Int} (H : Has fns) (hn : IsSlG 6 NodeE S nv g.nodes) (hi : IsSlG 2 InfoE S iv g.infos) (hc : IsSl .i64 S cv l) (hln : g.nodes.length ≤ 100000) (hll : l.length ≤ 10000000) (hs : s ≤ 9223372036854775807) (hpr : formE g = 0 → Prods g pr) :
    wpf fns (.fn 45 [] []) [.agg [.int .i64 g.players, nv, iv], cv, .int .i64 s] S (PayR S g l pr s) := by
  refine wpf_fn H.f45 (by simp) ?_
  simp only [↓stU, stD, reduceEqDiff, ↓reduceIte, ↓stV, stW, Nat.reduceAdd]
  refine wsr ?_
  refine wpo_box (cs := [.int .i64 g.players, nv, iv]) rfl ?_
  intro S1 s1 n1 c1
  simp only [↓stU, stD, reduceEqDiff, ↓reduceIte, ↓stV, stW, Nat.reduceAdd]
  refine wsr ?_
  simp only [↓stU, stD, reduceEqDiff, ↓reduceIte, ↓stV, stW, Nat.reduceAdd, lg3_a c1]
  refine wpo_call ?_
  simp only [↓stU, stD, reduceEqDiff, ↓reduceIte, ↓stV, stW, Nat.reduceAdd]
  refine wpf_mono (xpath_spec (pr := pr) H (IsSlG.same (E := NodeE) firm_node hn s1) (IsSlG.same (E := InfoE) firm_info hi s1) (hc.same s1) hln hll hs hpr) ?_
  rintro _ X ⟨hX, x, rfl, hx1, hx0⟩
  have sX := s1.trans hX
  have lgX : S.nx < X.nx := Nat.lt_of_lt_of_le (show S.nx < S1.nx by omega) hX.1
  have cX := (hX.2 _ (show S.nx < S1.nx by omega)).trans c1
  simp only [↓stU, stD, reduceEqDiff, ↓reduceIte, ↓stV, stW, Nat.reduceAdd, ex0, ex1]
  refine wss ?_
  simp only [↓stU, stD, reduceEqDiff, ↓reduceIte, ↓stV, stW, Nat.reduceAdd]
  by_cases h1 : pathE g l pr s = 0
  rotate_left
  · refine wpc_yes (by simp only [↓stU, stD, reduceEqDiff, ↓reduceIte, ↓stV, stW, Nat.reduceAdd, decide_eq_true (show pathE g l pr s ≠ 0 from h1)]) ?_
    refine wsr ?_
    simp only [↓stU, stD, reduceEqDiff, ↓reduceIte, ↓stV, stW, Nat.reduceAdd]
    refine wpc_ret ?_
    simp only [↓stU, stD, reduceEqDiff, ↓reduceIte, ↓stV, stW, Nat.reduceAdd]
    exact ⟨sX, .nilsl, rfl, fun _ => rfl, fun h => absurd h h1⟩
  refine wpc_non (by simp only [↓stU, stD, reduceEqDiff, ↓reduceIte, ↓stV, stW, Nat.reduceAdd, decide_eq_false (show ¬ pathE g l pr s ≠ 0 from fun h => h h1)]) (wpc_skip ?_)
  try simp only [↓stU, stD, reduceEqDiff, ↓reduceIte, ↓stV, stW, Nat.reduceAdd]
  obtain ⟨G, he, hp1, hp2, hpa, hpl⟩ := path_facts (s := s) H hc h1
  have hx := hx0 h1
  rw [he] at hx
  have hlt : (pathC g l s).length - 1 < (pathC g l s).length := by omega
  obtain ⟨a1, a2⟩ := hpa _ hlt
  have hxl := hx.len
  have w0 : IntKind.i64.wrap (((pathC g l s).length : Nat) - 1 : Int) = (((pathC g l s).length - 1 : Nat) : Int) := by rw [wrap_i64 (by omega) (by omega)]; omega
  have ia := hx.iaddr hlt
  have la := hx.ld hlt
  obtain ⟨b1, o1, hp, lb1⟩ := IsSl.place hx hlt
  rw [hp] at ia la
  have hnn := natOf_nn (k := .i64) a1
  obtain ⟨_, bx, qx, hiax, hbx, _, ⟨xa, xw, xp, rfl, hxa, hxw, hxp⟩, hldx, hfx⟩ := IsSlG.at (IsSlG.same (E := NodeE) firm_node hn sX) (by decide) (nodeAt_some (show ((pathC g l s).getD ((pathC g l s).length - 1) 0).toNat < g.nodes.length by omega))
  have l5 := hfx 5 _ rfl
  have snv := IsSlG.self hn
  have sxp := IsSl.self hxp
  unfold payL at hpl
  refine wpc_seq (wpc_drd2 (fun _ => False) ?_)
  intro Y sY hY nY
  simp only [List.length_cons, List.length_nil, Nat.reduceAdd] at nY
  simp only [↓stU, stD, reduceEqDiff, ↓reduceIte, ↓stV, stW, Nat.reduceAdd, evQ_faddr, isLoad_faddr, faddr_ptr, lg3_1 cX, lgX, not_false_eq_true, snv, hxl, Int.ofNat_eq_natCast, w0, natOf_cast, ia, la, lb1, hnn, hiax, l5, hbx, sxp, evA_none]
  obtain ⟨U, hU⟩ : ∃ U : St, U = ⟨Y.h.set (X.nx + 0) (some (.cells [] false 0)), Y.nx⟩ := ⟨_, rfl⟩
  have sU : Same X U := by rw [hU]; exact ⟨sY.1, fun c hc => by simp only; rw [T.get_set, if_neg (by omega)]; exact sY.2 c hc⟩
  have gU : U.h.get (X.nx + 0) = some (.cells [] false 0) := by rw [hU]; simp only; rw [T.get_set, if_pos rfl]
  have nU : U.nx = Y.nx := by rw [hU]
  obtain ⟨r, V, happ, hr, sV, _⟩ := app_cp (bytes := 8) (E := Int1) (l := (nodeAt g ((pathC g l s).getD ((pathC g l s).length - 1) 0).toNat).pay) firm_int1 Nat.one_pos gU (by omega) (toG (hxp.same sU)) (by unfold room; omega) (by unfold room; omega)
  refine runD_app rfl (by rw [flush_one rfl]; simp only [↓stU, stD, reduceEqDiff, ↓reduceIte, ↓stV, stW, Nat.reduceAdd]; rw [← hU]; exact happ) ?_ ?_
  · rw [flush_one rfl, ← hU]
    exact ⟨sV.1, fun c hc _ => sV.2 c (by omega)⟩
  rw [flush_one rfl]
  simp only [↓stU, stD, reduceEqDiff, ↓reduceIte, ↓stV, stW, Nat.reduceAdd]
  refine wpc_ret ?_
  simp only [↓stU, stD, reduceEqDiff, ↓reduceIte, ↓stV, stW, Nat.reduceAdd]
  exact ⟨sX.trans (sU.trans sV), r, by rw [h1], fun h => absurd h1 h, fun _ => ofG hr⟩
end Go.Ev.Gl

namespace Go.Ev.Gl
variable {fns : T AFn}

/-! ## Games that are alike (the same content) -/
theorem info_neq (p a : Int) : binV .neq (.struct [(0,.int),(1,.int)]) (.agg [.int .i64 p, .int .i64 a]) (.agg [.int .i64 p, .int .i64 a]) = some (.bool false) := by
  have e : ∀ z : Int, eqp .int (.int .i64 z) (.int .i64 z) = some true := fun z => by
    show bsel (keq .i64 .i64) (some (ieq z z)) none = _
    rw [keq_refl, bsel_true, ieq_eq]
    simp
  show osel (eqs [(0,.int),(1,.int)] [.int .i64 p, .int .i64 a] [.int .i64 p, .int .i64 a]) (fun b => some (AV.bool (bsel b false true))) = _
  have e0 : nth [AV.int .i64 p, .int .i64 a] 0 = some (.int .i64 p) := rfl
  have e1 : nth [AV.int .i64 p, .int .i64 a] 1 = some (.int .i64 a) := rfl
  simp only [eqs, e0, e1, e, osel_some, bsel_true]
def AlkII (S : St) (a b : AV) (n : Nat) (k : Nat) (A : Act') (X : St) : Prop := A.inr = false ∧ Same S X ∧ ∃ i : Nat, i + k = n ∧ tmpV 0 A.F = a ∧ tmpV 1 A.F = b ∧ tmpV 5 A.F = .int .i64 (i : Int)
set_option maxHeartbeats 1000000 in
theorem alikeInfo_spec {S : St} {a b : AV} {l : List PInfo} (H : Has fns) (ha : IsSlG 2 InfoE S a l) (hb : IsSlG 2 InfoE S b l) (hl : l.length ≤ 140737488355328) : wpf fns (.fn 93 [] []) [a, b] S fun r S' => r = .bool true ∧ Same S S' := by
  refine wpf_fn H.f93 (by simp) ?_
  simp only [↓stU, stD, reduceEqDiff, ↓reduceIte, Nat.reduceAdd]
  refine wsr ?_
  simp only [↓stU, stD, reduceEqDiff, ↓reduceIte, Nat.reduceAdd]
  refine wss ?_
  simp only [↓stU, stD, reduceEqDiff, ↓reduceIte, Nat.reduceAdd, ha.len, hb.len]
  refine wpc_non (by simp only [↓stU, stD, reduceEqDiff, ↓reduceIte, Nat.reduceAdd, decide_eq_false (show ¬ ((l.length : Nat) : Int) ≠ ((l.length : Nat) : Int) from fun h => h rfl)]) (wpc_skip ?_)
  try simp only [↓stU, stD, reduceEqDiff, ↓reduceIte, Nat.reduceAdd]
  refine wpc_seq (wpc_mono (Q := fun o A' X => o = .normal ∧ A'.inr = false ∧ Same S X) (wpc_seq (wpc_reg ?_)) ?_)
  · simp only [↓stU, stD, reduceEqDiff, ↓reduceIte, Nat.reduceAdd]
    refine wpc_block (wpc_loop (AlkII S a b l.length) ?_ l.length _ _ ⟨rfl, Same.refl _, 0, by omega, by simp only [↓stU, stD, reduceEqDiff, ↓reduceIte, Nat.reduceAdd], by simp only [↓stU, stD, reduceEqDiff, ↓reduceIte, Nat.reduceAdd], by simp only [↓stU, stD, reduceEqDiff, ↓reduceIte, Nat.reduceAdd]⟩)
    rintro k ⟨F, inr⟩ X ⟨q0, hX, i, hik, p0, p1, p5⟩
    simp only at q0 p0 p1 p5
    subst q0
    refine wss ?_
    simp only [↓stU, stD, reduceEqDiff, ↓reduceIte, Nat.reduceAdd, p0, p5, ha.len]
    by_cases hlt : i < l.length
    · refine wpc_yes (by simp only [↓stU, stD, reduceEqDiff, ↓reduceIte, Nat.reduceAdd, decide_eq_true (show (i : Int) < ((l.length : Nat) : Int) by omega)]) (wpc_skip ?_)
      try simp only [↓stU, stD, reduceEqDiff, ↓reduceIte, Nat.reduceAdd]
      obtain ⟨e1, b1, q1, ia, _, _, h1, la, _⟩ := IsSlG.at (IsSlG.same (E := InfoE) firm_info ha hX) (by decide) (List.getElem?_eq_getElem hlt)
      obtain ⟨e2, b2, q2, ib, _, _, h2, lb, _⟩ := IsSlG.at (IsSlG.same (E := InfoE) firm_info hb hX) (by decide) (List.getElem?_eq_getElem hlt)
      have h1 : e1 = [.int .i64 l[i].player, .int .i64 l[i].actions] := h1
      have h2 : e2 = [.int .i64 l[i].player, .int .i64 l[i].actions] := h2
      subst h1
      subst h2
      have hsv := agg2_self (same_int .i64 l[i].player) (same_int .i64 l[i].actions)
      have sa := IsSlG.self ha
      have sb := IsSlG.self hb
      have w1 : IntKind.i64.wrap ((i : Int) + 1) = ((i + 1 : Nat) : Int) := by rw [wrap_i64 (by omega) (by omega)]; omega
      refine wpc_seq (wpc_block (wpc_seq (wpc_drq ?_)))
      simp only [↓stU, stD, reduceEqDiff, ↓reduceIte, Nat.reduceAdd, p0, p1, p5, natOf_cast, ia, ib, la, lb, hsv, info_neq, sa, sb]
      refine wpc_non (by simp only [↓stU, stD, reduceEqDiff, ↓reduceIte, Nat.reduceAdd]) (wpc_skip ?_)
      try simp only [↓stU, stD, reduceEqDiff, ↓reduceIte, Nat.reduceAdd]
      refine wpc_reg ?_
      simp only [↓stU, stD, reduceEqDiff, ↓reduceIte, Nat.reduceAdd, p5, w1]
      exact ⟨k - 1, by omega, rfl, hX.trans (Same.nx _ _), i + 1, by omega, by simp only [↓stU, stD, reduceEqDiff, ↓reduceIte, Nat.reduceAdd, p0], by simp only [↓stU, stD, reduceEqDiff, ↓reduceIte, Nat.reduceAdd, p1], by simp only [↓stU, stD, reduceEqDiff, ↓reduceIte, Nat.reduceAdd]⟩
    · refine wpc_non (by simp only [↓stU, stD, reduceEqDiff, ↓reduceIte, Nat.reduceAdd, decide_eq_false (show ¬ (i : Int) < ((l.length : Nat) : Int) by omega)]) (wpc_exit ?_)
      simp only [↓stU, stD, reduceEqDiff, ↓reduceIte, Nat.reduceAdd]
      exact hX
  rintro o ⟨F, inr⟩ X ⟨rfl, q0, hX⟩
  simp only at q0
  subst q0
  try simp only [↓stU, stD, reduceEqDiff, ↓reduceIte, Nat.reduceAdd]
  refine wsr ?_
  simp only [↓stU, stD, reduceEqDiff, ↓reduceIte, Nat.reduceAdd]
  refine wpc_ret ?_
  simp only [↓stU, stD, reduceEqDiff, ↓reduceIte, Nat.reduceAdd]
  exact hX
theorem alikeNode_spec {S : St} {cs ds : List AV} {x : PNode} (H : Has fns) (h1 : NodeE S cs x) (h2 : NodeE S ds x) (hb : x.next.length * 8 ≤ 140737488355328 ∧ x.weights.length * 8 ≤ 140737488355328 ∧ x.pay.length * 8 ≤ 140737488355328) : wpf fns (.fn 94 [] []) [.agg cs, .agg ds] S fun r S' => r = .bool true ∧ Same S S' := by
  obtain ⟨xa, xw, xp, rfl, hxa, hxw, hxp⟩ := h1
  obtain ⟨ya, yw, yp, rfl, hya, hyw, hyp⟩ := h2
  obtain ⟨b1, b2, b3⟩ := hb
  refine wpf_fn H.f94 (by simp) ?_
  simp only [↓stU, stD, reduceEqDiff, ↓reduceIte, Nat.reduceAdd]
  refine wsr ?_
  refine wpo_box (by simp only [↓stU, stD, reduceEqDiff, ↓reduceIte, Nat.reduceAdd]; exact cells_agg _) ?_
  intro S1 s1 n1 c1
  refine wpo_box (by simp only [↓stU, stD, reduceEqDiff, ↓reduceIte, Nat.reduceAdd]; exact cells_agg _) ?_
  intro S2 s2 n2 c2
  simp only [↓stU, stD, reduceEqDiff, ↓reduceIte, Nat.reduceAdd]
  have d1 : S2.h.get S.nx = _ := (s2.2 _ (by omega)).trans c1
  have sS := s1.trans s2
  have l1 : S.nx < S2.nx := by omega
  have l2 : S1.nx < S2.nx := by omega
  refine wsr ?_
  simp only [↓stU, stD, reduceEqDiff, ↓reduceIte, ↓stV, stW, Nat.reduceAdd, evQ_faddr, faddr_ptr, ld6_0 d1, ld6_0 c2, ld6_1 d1, ld6_1 c2, ld6_2 d1, ld6_2 c2, ld6_3 d1, ld6_3 c2, decide_true]
  refine wpo_call ?_
  simp only [↓stU, stD, reduceEqDiff, ↓reduceIte, ↓stV, stW, Nat.reduceAdd]
  refine wpf_mono (alikeW_spec H (hxa.same sS) (hya.same sS) (by omega)) ?_
  rintro _ S3 ⟨rfl, s3⟩
  rw [decide_eq_true rfl]
  have d1' := (s3.2 _ l1).trans d1
  have c2' := (s3.2 _ l2).trans c2
  have sS3 := sS.trans s3
  simp only [↓stU, stD, reduceEqDiff, ↓reduceIte, ↓stV, stW, Nat.reduceAdd, evQ_faddr, faddr_ptr, ld6_4 d1', ld6_4 c2']
  refine wpo_call ?_
  simp only [↓stU, stD, reduceEqDiff, ↓reduceIte, ↓stV, stW, Nat.reduceAdd]
  refine wpf_mono (alikeW_spec H (hxw.same sS3) (hyw.same sS3) (by omega)) ?_
  rintro _ S4 ⟨rfl, s4⟩
  rw [decide_eq_true rfl]
  have d1'' := (s4.2 _ (Nat.lt_of_lt_of_le l1 s3.1)).trans d1'
  have c2'' := (s4.2 _ (Nat.lt_of_lt_of_le l2 s3.1)).trans c2'
  have sS4 := sS3.trans s4
  simp only [↓stU, stD, reduceEqDiff, ↓reduceIte, ↓stV, stW, Nat.reduceAdd, evQ_faddr, faddr_ptr, ld6_5 d1'', ld6_5 c2'']
  refine wpo_call ?_
  simp only [↓stU, stD, reduceEqDiff, ↓reduceIte, ↓stV, stW, Nat.reduceAdd]
  refine wpf_mono (alikeW_spec H (hxp.same sS4) (hyp.same sS4) (by omega)) ?_
  rintro _ S5 ⟨rfl, s5⟩
  rw [decide_eq_true rfl]
  try simp only [↓stU, stD, reduceEqDiff, ↓reduceIte, ↓stV, stW, Nat.reduceAdd]
  refine wpc_ret ?_
  try simp only [↓stU, stD, reduceEqDiff, ↓reduceIte, ↓stV, stW, Nat.reduceAdd]
  exact sS4.trans s5
end Go.Ev.Gl

namespace Go.Ev.Gl
variable {fns : T AFn}

/-! ## Drawn regions: plain loads, appends and calls first, stores behind them all -/
theorem wpd_app {base : Nat} {suf : List AO} {Q : DS → Prop} : ∀ {pre : List AO} {i : Nat} {D : DS}, wpd fns pre i base D (fun D' => wpd fns suf (i + pre.length) base D' Q) → wpd fns (pre ++ suf) i base D Q := by
  intro pre i D h
  obtain ⟨n, D1, h1, k, D2, h2, h3⟩ := h
  refine ⟨max n k, D2, ?_, h3⟩
  have h1' := evDs_mono (ev_mono fns (Nat.le_max_left n k)).call h1
  have h2' := evDs_mono (ev_mono fns (Nat.le_max_right n k)).call h2
  clear h1 h2
  induction pre generalizing i D with
  | nil => cases h1'; exact h2'
  | cons o os ih =>
    show osel (evD o i base (ev fns (max n k)).call D) _ = _
    have h1'' : osel (evD o i base (ev fns (max n k)).call D) (fun D' => evDs os (i + 1) base (ev fns (max n k)).call D') = some D1 := h1'
    cases he : evD o i base (ev fns (max n k)).call D with
    | none => rw [he] at h1''; cases h1''
    | some D' =>
      rw [he, osel_some] at h1''
      rw [osel_some]
      exact ih h1'' (by rw [List.length_cons] at h2'; rw [show i + 1 + os.length = i + (os.length + 1) by omega]; exact h2')
/-- where the region's effects and loads stand -/
def Low (K : Nat) (D : DS) : Prop := (∀ e ∈ D.hs, e.1 < K) ∧ ∀ l ∈ D.ls, l.i < K ∧ l.mask < 2 ^ K
theorem evD_low {call : CallF} {o : AO} {i base K : Nat} {D D' : DS} (h : evD o i base call D = some D') (hi : i < K) (hm : o.mask < 2 ^ K) (hD : Low K D) : Low K D' := by
  unfold evD at h
  cases hw : wants o.grd D.F with
  | false => rw [hw, bsel_false] at h; cases h; exact hD
  | true =>
    rw [hw, bsel_true] at h
    obtain ⟨d, op, g, m⟩ := o
    cases op with
    | q q =>
      have h : osel (evQ q D.F D.S.h) (fun v => some (⟨putF d D.F v, D.S, D.ps, D.hs, bsel (isLoad q) (⟨q, D.F, v, i, m⟩ :: D.ls) D.ls⟩ : DS)) = some D' := h
      cases he : evQ q D.F D.S.h with
      | none => rw [he] at h; cases h
      | some v =>
        rw [he, osel_some] at h
        cases h
        refine ⟨hD.1, fun l hl => ?_⟩
        simp only at hl
        cases hq : isLoad q with
        | false => rw [hq, bsel_false] at hl; exact hD.2 l hl
        | true =>
          rw [hq, bsel_true] at hl
          rcases List.mem_cons.1 hl with rfl | hl
          · exact ⟨hi, hm⟩
          · exact hD.2 l hl
    | a a =>
      have h : osel (evA a D.F (base + i)) (fun r => some (⟨putF d D.F r.1, D.S, ⟨i, base + i, r.2⟩ :: D.ps, D.hs, D.ls⟩ : DS)) = some D' := h
      cases he : evA a D.F (base + i) with
      | none => rw [he] at h; cases h
      | some v => rw [he, osel_some] at h; cases h; exact hD
    | x x =>
      have h : bsel (lastOk D.hs m) (osel (evX x call D.F ⟨(flush m D.ps D.S.h).2, D.S.nx⟩) fun r => some (⟨putF d D.F r.1, r.2, (flush m D.ps D.S.h).1, (i, m, r.2.h) :: D.hs, D.ls⟩ : DS)) none = some D' := h
      cases hl : lastOk D.hs m with
      | false => rw [hl, bsel_false] at h; cases h
      | true =>
        rw [hl, bsel_true] at h
        cases he : evX x call D.F ⟨(flush m D.ps D.S.h).2, D.S.nx⟩ with
        | none => rw [he] at h; cases h
        | some v =>
          rw [he, osel_some] at h
          cases h
          refine ⟨fun e he => ?_, hD.2⟩
          rcases List.mem_cons.1 he with rfl | he
          · exact hi
          · exact hD.1 e he
theorem evDs_low {call : CallF} {base K : Nat} : ∀ {l : List AO} {i : Nat} {D D' : DS}, evDs l i base call D = some D' → i + l.length ≤ K → (∀ o ∈ l, o.mask < 2 ^ K) → Low K D → Low K D'
  | [], i, D, D', h, _, _, hD => by cases h; exact hD
  | o :: os, i, D, D', h, hi, hm, hD => by
    have h : osel (evD o i base call D) (fun D' => evDs os (i + 1) base call D') = some D' := h
    rw [List.length_cons] at hi
    cases he : evD o i base call D with
    | none => rw [he] at h; cases h
    | some D1 =>
      rw [he, osel_some] at h
      exact evDs_low h (by omega) (fun o ho => hm o (List.mem_cons_of_mem _ ho)) (evD_low he (by omega) (hm o (List.mem_cons_self ..)) hD)
theorem loadGo_low {W : Nat → Prop} {h0 : T AB} {base K m : Nat} {h' : T AB} {r : List (Nat × Nat × T AB)} {l : Loaded} (h : sameV l.v l.v = true ∧ OldL W base l.q l.F ∧ evQ l.q l.F h0 = some l.v) (hl : l.i < K ∧ l.mask < 2 ^ K) (hm : ∀ i, i < K → Nat.testBit m i = true) : ∀ {hs : List (Nat × Nat × T AB)} {h1 : T AB}, (∀ e ∈ hs, ∀ b, b < base → ¬ W b → e.2.2.get b = h0.get b) → (∀ b, b < base → ¬ W b → h1.get b = h0.get b) → loadGo l (hs ++ (K, m, h') :: r) h1 = true
  | [], h1, _, hh => by
    have e1 : sameO l.v (evQ l.q l.F h1) = true := by rw [h.2.1.ev hh, h.2.2]; exact h.1
    have e2 : Nat.testBit l.mask K = false := Nat.testBit_lt_two_pow hl.2
    show loadGo l ((K, m, h') :: r) h1 = true
    unfold loadGo
    rw [e2, bsel_false, e1, bsel_true, hm _ hl.1, bsel_true]
  | (i, mm, h2) :: rr, h1, hs, hh => by
    have e1 : sameO l.v (evQ l.q l.F h1) = true := by rw [h.2.1.ev hh, h.2.2]; exact h.1
    have e2 : loadGo l (rr ++ (K, m, h') :: r) h2 = true := loadGo_low h hl hm (fun e he => hs e (by simp [he])) (hs (i, mm, h2) (by simp))
    show loadGo l ((i, mm, h2) :: (rr ++ (K, m, h') :: r)) h1 = true
    unfold loadGo
    rw [e1, e2]
    cases Nat.testBit l.mask i <;> cases Nat.testBit mm l.i <;> rfl
theorem wpc_pre {ops pre suf : List AO} {K : Nat} {A : Act'} {S : St} {Q : Out → Act' → St → Prop} {R : Fr → St → List Pend → Prop} (he : ops = pre ++ suf) (hK : pre.length = K) (hm : (pre.all fun o => decide (o.mask < 2 ^ K)) = true)
    (h : ∀ S1, Same S S1 → S1.h = S.h → S1.nx = S.nx + ops.length → runD fns (fun _ => False) S.h S.nx pre 0 A.F S1 [] none R)
    (h2 : ∀ F S' ps hs ls, R F S' ps → (∀ m, (∀ i, i < K → Nat.testBit m i = true) → lastOk hs m = true) → (∀ m h' r, (∀ i, i < K → Nat.testBit m i = true) → loadsOk S.h (hs.reverse ++ (K, m, h') :: r) ls = true) → wpd fns suf K S.nx ⟨F, S', ps, hs, ls⟩ fun D' => loadsOk S.h D'.hs.reverse D'.ls = true ∧ Q .normal ⟨D'.F, A.inr⟩ ⟨(flush (2 ^ ops.length - 1) D'.ps D'.S.h).2, D'.S.nx⟩) : wpc fns (.drw ops) A S Q := by
  refine wpc_drw ?_
  obtain ⟨n, D', e1, e2, e3⟩ := runD_wpd (fns := fns) (i := 0) (D := ⟨A.F, ⟨S.h, S.nx + ops.length⟩, [], [], []⟩) (last := none) ⟨fun _ _ _ => rfl, Nat.le_add_right _ _, fun e he => (by cases he), fun l hl => (by cases hl), fun p hp => (by cases hp)⟩ rfl (h ⟨S.h, S.nx + ops.length⟩ (Same.nx S _) rfl rfl)
  have low : Low K D' := evDs_low e1 (by omega) (fun o ho => by have := List.all_eq_true.1 hm o ho; simpa using this) ⟨fun e he => (by cases he), fun l hl => (by cases hl)⟩
  obtain ⟨F, S', ps, hs, ls⟩ := D'
  have hh := h2 F S' ps hs ls e2 (fun m hm => by
    cases hs with
    | nil => rfl
    | cons e r => exact hm _ (low.1 e (List.mem_cons_self ..))) (fun m h' r hm => loadsOk_of fun l hl => loadGo_low (e3.lds l hl) (low.2 l hl) hm (fun e he => e3.chain e (List.mem_reverse.1 he)) (fun _ _ _ => rfl))
  have : wpd fns ops 0 S.nx ⟨A.F, ⟨S.h, S.nx + ops.length⟩, [], [], []⟩ fun D' => loadsOk S.h D'.hs.reverse D'.ls = true ∧ Q .normal ⟨D'.F, A.inr⟩ ⟨(flush (2 ^ ops.length - 1) D'.ps D'.S.h).2, D'.S.nx⟩ := by
    subst he
    refine wpd_app ⟨n, _, e1, ?_⟩
    rw [Nat.zero_add, hK]
    exact hh
  exact this
end Go.Ev.Gl

namespace Go.Ev.Gl
variable {fns : T AFn}

/-! ## Two games of the same content are alike -/
def AlkGI (S : St) (ca cb : Option AB) (ga gb : Nat) (n : Nat) (k : Nat) (A : Act') (X : St) : Prop := A.inr = false ∧ Same S X ∧ ga < X.nx ∧ gb < X.nx ∧ X.h.get ga = ca ∧ X.h.get gb = cb ∧ ∃ i : Nat, i + k = n ∧ tmpV 2 A.F = .ptr ga 0 ∧ tmpV 3 A.F = .ptr gb 0 ∧ tmpV 5 A.F = .int .i64 (i : Int)
set_option maxHeartbeats 4000000 in
theorem alikeGame_spec {S : St} {nv iv mv jv : AV} {g : PGame} (H : Has fns) (hn : IsSlG 6 NodeE S nv g.nodes) (hi : IsSlG 2 InfoE S iv g.infos) (hm : IsSlG 6 NodeE S mv g.nodes) (hj : IsSlG 2 InfoE S jv g.infos) (hT : Tame g) (hln : g.nodes.length ≤ 100000) :
    wpf fns (.fn 46 [] []) [.agg [.int .i64 g.players, nv, iv], .agg [.int .i64 g.players, mv, jv]] S fun r S' => r = .bool true ∧ Same S S' := by
  refine wpf_fn H.f46 (by simp) ?_
  simp only [↓stU, stD, reduceEqDiff, ↓reduceIte, ↓stV, stW, Nat.reduceAdd]
  refine wsr ?_
  refine wpo_box (cs := [.int .i64 g.players, nv, iv]) rfl ?_
  intro S1 s1 n1 c1
  refine wpo_box (cs := [.int .i64 g.players, mv, jv]) rfl ?_
  intro S2 s2 n2 c2
  simp only [↓stU, stD, reduceEqDiff, ↓reduceIte, ↓stV, stW, Nat.reduceAdd]
  have d1 := (s2.2 _ (show S.nx < S1.nx by omega)).trans c1
  have sS := s1.trans s2
  have l1 : S.nx < S2.nx := by omega
  have l2 : S1.nx < S2.nx := by omega
  refine wss ?_
  simp only [↓stU, stD, reduceEqDiff, ↓reduceIte, ↓stV, stW, Nat.reduceAdd, evQ_faddr, faddr_ptr, lg3_0 d1, lg3_0 c2, lg3_1 d1, lg3_1 c2, lg3_2 d1, lg3_2 c2, hn.len, hm.len, ne_eq, not_true_eq_false, decide_false]
  refine wpo_call ?_
  simp only [↓stU, stD, reduceEqDiff, ↓reduceIte, ↓stV, stW, Nat.reduceAdd]
  refine wpf_mono (alikeInfo_spec H (IsSlG.same (E := InfoE) firm_info hi sS) (IsSlG.same (E := InfoE) firm_info hj sS) (by have := hT.1; omega)) ?_
  rintro _ X ⟨rfl, hX⟩
  have sX := sS.trans hX
  have dX := (hX.2 _ l1).trans d1
  have cX := (hX.2 _ l2).trans c2
  simp only [↓stU, stD, reduceEqDiff, ↓reduceIte, ↓stV, stW, Nat.reduceAdd, un_not, Bool.not_true]
  refine wpc_non (by simp only [↓stU, stD, reduceEqDiff, ↓reduceIte, ↓stV, stW, Nat.reduceAdd]) (wpc_skip ?_)
  try simp only [↓stU, stD, reduceEqDiff, ↓reduceIte, ↓stV, stW, Nat.reduceAdd]
  refine wpc_seq (wpc_mono (Q := fun o A' Z => o = .normal ∧ A'.inr = false ∧ Same S Z) (wpc_seq (wpc_reg ?_)) ?_)
  · simp only [↓stU, stD, reduceEqDiff, ↓reduceIte, ↓stV, stW, Nat.reduceAdd]
    refine wpc_block (wpc_loop (AlkGI S (some (.cells [.int .i64 g.players, nv, iv] false 0)) (some (.cells [.int .i64 g.players, mv, jv] false 0)) S.nx S1.nx g.nodes.length) ?_ g.nodes.length _ _ ⟨rfl, sX, Nat.lt_of_lt_of_le l1 hX.1, Nat.lt_of_lt_of_le l2 hX.1, dX, cX, 0, by omega, by simp only [↓stU, stD, reduceEqDiff, ↓reduceIte, ↓stV, stW, Nat.reduceAdd], by simp only [↓stU, stD, reduceEqDiff, ↓reduceIte, ↓stV, stW, Nat.reduceAdd], by simp only [↓stU, stD, reduceEqDiff, ↓reduceIte, ↓stV, stW, Nat.reduceAdd]⟩)
    rintro k ⟨F, inr⟩ V ⟨q0, hV, la, lb, dV, cV, i, hik, p2, p3, p5⟩
    simp only at q0 p2 p3 p5
    subst q0
    refine wss ?_
    simp only [↓stU, stD, reduceEqDiff, ↓reduceIte, ↓stV, stW, Nat.reduceAdd, p2, p5, evQ_faddr, faddr_ptr, lg3_1 dV, hn.len]
    by_cases hlt : i < g.nodes.length
    rotate_left
    · refine wpc_non (by simp only [↓stU, stD, reduceEqDiff, ↓reduceIte, ↓stV, stW, Nat.reduceAdd, decide_eq_false (show ¬ (i : Int) < ((g.nodes.length : Nat) : Int) by omega)]) (wpc_exit ?_)
      simp only [↓stU, stD, reduceEqDiff, ↓reduceIte, ↓stV, stW, Nat.reduceAdd]
      exact hV
    refine wpc_yes (by simp only [↓stU, stD, reduceEqDiff, ↓reduceIte, ↓stV, stW, Nat.reduceAdd, decide_eq_true (show (i : Int) < ((g.nodes.length : Nat) : Int) by omega)]) (wpc_skip ?_)
    try simp only [↓stU, stD, reduceEqDiff, ↓reduceIte, ↓stV, stW, Nat.reduceAdd]
    have hmem : nodeAt g i ∈ g.nodes := List.mem_of_getElem? (nodeAt_some hlt)
    obtain ⟨_, bx, qx, iax, hbx, _, hex, ldx, _⟩ := IsSlG.at (IsSlG.same (E := NodeE) firm_node hn hV) (by decide) (nodeAt_some hlt)
    obtain ⟨_, by', qy, iay, hby, _, hey, ldy, _⟩ := IsSlG.at (IsSlG.same (E := NodeE) firm_node hm hV) (by decide) (nodeAt_some hlt)
    have sx : ∀ {cs}, NodeE V cs (nodeAt g i) → sameV (.agg cs) (.agg cs) = true := fun {cs} h => by
      obtain ⟨xa, xw, xp, rfl, hxa, hxw, hxp⟩ := h
      exact agg6_self (same_int ..) (same_int ..) (same_int ..) (IsSl.self hxa) (IsSl.self hxw) (IsSl.self hxp)
    have s1' := sx hex
    have s2' := sx hey
    have snv := IsSlG.self hn
    have smv := IsSlG.self hm
    have w0 : IntKind.i64.wrap ((i : Int) + 1) = ((i + 1 : Nat) : Int) := by rw [wrap_i64 (by omega) (by omega)]; omega
    refine wpc_seq (wpc_block (wpc_seq (wpc_drd1 (fun _ => False) ?_)))
    intro Y sY
    simp only [↓stU, stD, reduceEqDiff, ↓reduceIte, ↓stV, stW, Nat.reduceAdd, p2, p3, p5, evQ_faddr, isLoad_faddr, faddr_ptr, lg3_1 dV, lg3_1 cV, la, lb, not_false_eq_true, snv, smv, natOf_cast, iax, iay, ldx, ldy, hbx, hby, s1', s2']
    refine runD_call0 rfl ?_
    simp only [↓stU, stD, reduceEqDiff, ↓reduceIte, ↓stV, stW, Nat.reduceAdd]
    refine wpf_mono (alikeNode_spec (x := nodeAt g i) H (firm_node hex sY) (firm_node hey sY) (hT.2 _ hmem)) ?_
    rintro _ Z ⟨rfl, hZ⟩
    refine ⟨hZ, ?_⟩
    have sVZ := sY.trans hZ
    try simp only [↓stU, stD, reduceEqDiff, ↓reduceIte, ↓stV, stW, Nat.reduceAdd, un_not, Bool.not_true]
    refine wpc_non (by simp only [↓stU, stD, reduceEqDiff, ↓reduceIte, ↓stV, stW, Nat.reduceAdd]) (wpc_skip ?_)
    try simp only [↓stU, stD, reduceEqDiff, ↓reduceIte, ↓stV, stW, Nat.reduceAdd]
    refine wpc_reg ?_
    simp only [↓stU, stD, reduceEqDiff, ↓reduceIte, ↓stV, stW, Nat.reduceAdd, p5, w0]
    exact ⟨k - 1, by omega, rfl, hV.trans sVZ, Nat.lt_of_lt_of_le la sVZ.1, Nat.lt_of_lt_of_le lb sVZ.1, (sVZ.2 _ la).trans dV, (sVZ.2 _ lb).trans cV, i + 1, by omega, by simp only [↓stU, stD, reduceEqDiff, ↓reduceIte, ↓stV, stW, Nat.reduceAdd, p2], by simp only [↓stU, stD, reduceEqDiff, ↓reduceIte, ↓stV, stW, Nat.reduceAdd, p3], by simp only [↓stU, stD, reduceEqDiff, ↓reduceIte, ↓stV, stW, Nat.reduceAdd]⟩
  rintro o ⟨F, inr⟩ Z ⟨rfl, q0, hZ⟩
  simp only at q0
  subst q0
  try simp only [↓stU, stD, reduceEqDiff, ↓reduceIte, ↓stV, stW, Nat.reduceAdd]
  refine wsr ?_
  simp only [↓stU, stD, reduceEqDiff, ↓reduceIte, ↓stV, stW, Nat.reduceAdd]
  refine wpc_ret ?_
  simp only [↓stU, stD, reduceEqDiff, ↓reduceIte, ↓stV, stW, Nat.reduceAdd]
  exact hZ
end Go.Ev.Gl

namespace Go.Ev.Gl
variable {fns : T AFn}

/-! ## A node's lists, copied -/
noncomputable def ownP : List AO := [⟨(some 25),(.a (.bslice 3 1 0 [(.int .i64 (.ofNat 0))] [])),none,0⟩,
⟨(some 26),(.q (.faddr 3 (.t 5))),none,0⟩,
⟨(some 27),(.q (.ld false 1 (.t 26))),none,2⟩,
⟨(some 28),(.x (.app 3 1 8 (.t 25) (.t 27))),none,7⟩,
⟨(some 29),(.a (.bslice 3 1 0 [(.int .i64 (.ofNat 0))] [])),none,0⟩,
⟨(some 30),(.q (.faddr 4 (.t 5))),none,0⟩,
⟨(some 31),(.q (.ld false 1 (.t 30))),none,32⟩,
⟨(some 32),(.x (.app 3 1 8 (.t 29) (.t 31))),none,127⟩,
⟨(some 33),(.a (.bslice 3 1 0 [(.int .i64 (.ofNat 0))] [])),none,0⟩,
⟨(some 34),(.q (.faddr 5 (.t 5))),none,0⟩,
⟨(some 35),(.q (.ld false 1 (.t 34))),none,512⟩,
⟨(some 36),(.x (.app 3 1 8 (.t 33) (.t 35))),none,2047⟩,
⟨(some 37),(.q (.faddr 3 (.t 5))),none,1647⟩]
noncomputable def ownX : List AO := [⟨none,(.x (.st 1 (.t 37) (.t 28))),none,8191⟩,
⟨(some 38),(.q (.faddr 4 (.t 5))),none,16383⟩,
⟨none,(.x (.st 1 (.t 38) (.t 32))),none,32767⟩,
⟨(some 39),(.q (.faddr 5 (.t 5))),none,65535⟩,
⟨none,(.x (.st 1 (.t 39) (.t 36))),none,131071⟩]
def OwnR (W : St) (F : Fr) (nb : Nat) (l1 l2 l3 : List Int) (F' : Fr) (Z : St) (ps : List Pend) : Prop := ps = [] ∧ Same W Z ∧ (∀ j, j < 6 → tmpV j F' = tmpV j F) ∧ tmpV 37 F' = .ptr nb (0 + 3) ∧ IsSl .i64 Z (tmpV 28 F') l1 ∧ IsSl .i64 Z (tmpV 32 F') l2 ∧ IsSl .i64 Z (tmpV 36 F') l3 ∧ ∀ c, (blkOf (tmpV 28 F') = some c ∨ blkOf (tmpV 32 F') = some c ∨ blkOf (tmpV 36 F') = some c) → W.nx ≤ c
theorem sl_move {S S' : St} {v : AV} {l : List Int} (h : IsSl .i64 S v l) (hn : S.nx ≤ S'.nx) (hh : ∀ c, blkOf v = some c → S'.h.get c = S.h.get c) : IsSl .i64 S' v l := ofG (IsSlG.moveB (toG h) hn hh fun _ _ h => h)
set_option maxHeartbeats 4000000 in
theorem ownP_run {W Y : St} {F : Fr} {nb : Nat} {k p f : AV} {xa xw xp : AV} {l1 l2 l3 : List Int} (p5 : tmpV 5 F = .ptr nb 0) (hb : W.h.get nb = some (.cells [k, p, f, xa, xw, xp] false 0)) (lb : nb < W.nx) (h1 : IsSl .i64 W xa l1) (h2 : IsSl .i64 W xw l2) (h3 : IsSl .i64 W xp l3) (b1 : l1.length * 8 ≤ 140737488355328) (b2 : l2.length * 8 ≤ 140737488355328) (b3 : l3.length * 8 ≤ 140737488355328)
    (hY : Same W Y) (nY : Y.nx = W.nx + 18) : runD fns (fun _ => False) W.h W.nx ownP 0 F Y [] none (OwnR W F nb l1 l2 l3) := by
  have s1 := IsSl.self h1
  have s2 := IsSl.self h2
  have s3 := IsSl.self h3
  unfold ownP
  simp only [↓stU, stD, reduceEqDiff, ↓reduceIte, ↓stV, stW, Nat.reduceAdd, p5, evQ_faddr, isLoad_faddr, faddr_ptr, ld6_3 hb, lb, not_false_eq_true, s1, evA_none]
  obtain ⟨U1, hU1⟩ : ∃ U : St, U = ⟨Y.h.set (W.nx + 0) (some (.cells [] false 0)), Y.nx⟩ := ⟨_, rfl⟩
  have sU1 : Same W U1 := by rw [hU1]; exact ⟨hY.1, fun c hc => by simp only; rw [T.get_set, if_neg (by omega)]; exact hY.2 c hc⟩
  have gU1 : U1.h.get (W.nx + 0) = some (.cells [] false 0) := by rw [hU1]; simp only; rw [T.get_set, if_pos rfl]
  have nU1 : U1.nx = W.nx + 18 := by rw [hU1]; exact nY
  obtain ⟨r1, V1, e1, i1, v1, k1⟩ := app_cp (bytes := 8) (E := Int1) (l := l1) firm_int1 Nat.one_pos gU1 (by omega) (toG (h1.same sU1)) (by unfold room; omega) (by unfold room; omega)
  refine runD_app rfl (by rw [flush_one rfl]; simp only [↓stU, stD, reduceEqDiff, ↓reduceIte, ↓stV, stW, Nat.reduceAdd]; rw [← hU1]; exact e1) ?_ ?_
  · rw [flush_one rfl, ← hU1]
    exact ⟨v1.1, fun c hc _ => v1.2 c (by omega)⟩
  rw [flush_one rfl]
  have sV1 := sU1.trans v1
  simp only [↓stU, stD, reduceEqDiff, ↓reduceIte, ↓stV, stW, Nat.reduceAdd, p5, evQ_faddr, isLoad_faddr, faddr_ptr, ld6_4 hb, lb, not_false_eq_true, s2, evA_none]
  obtain ⟨U2, hU2⟩ : ∃ U : St, U = ⟨V1.h.set (W.nx + 4) (some (.cells [] false 0)), V1.nx⟩ := ⟨_, rfl⟩
  have sU2 : Same W U2 := by rw [hU2]; exact ⟨sV1.1, fun c hc => by simp only; rw [T.get_set, if_neg (by omega)]; exact sV1.2 c hc⟩
  have gU2 : U2.h.get (W.nx + 4) = some (.cells [] false 0) := by rw [hU2]; simp only; rw [T.get_set, if_pos rfl]
  have nU2 : U2.nx = V1.nx := by rw [hU2]
  have nV1 := v1.1
  have i1U : IsSl .i64 U2 r1 l1 := sl_move (ofG i1) (by omega) fun c hc => by
    rw [hU2]
    simp only
    rw [T.get_set, if_neg (by rcases k1 c hc with h | h <;> omega)]
  obtain ⟨r2, V2, e2, i2, v2, k2⟩ := app_cp (bytes := 8) (E := Int1) (l := l2) firm_int1 Nat.one_pos gU2 (by omega) (toG (h2.same sU2)) (by unfold room; omega) (by unfold room; omega)
  refine runD_app rfl (by rw [flush_one rfl]; simp only [↓stU, stD, reduceEqDiff, ↓reduceIte, ↓stV, stW, Nat.reduceAdd]; rw [← hU2]; exact e2) ?_ ?_
  · rw [flush_one rfl, ← hU2]
    exact ⟨v2.1, fun c hc _ => v2.2 c (by omega)⟩
  rw [flush_one rfl]
  have sV2 := sU2.trans v2
  have i1V := i1U.same v2
  simp only [↓stU, stD, reduceEqDiff, ↓reduceIte, ↓stV, stW, Nat.reduceAdd, p5, evQ_faddr, isLoad_faddr, faddr_ptr, ld6_5 hb, lb, not_false_eq_true, s3, evA_none]
  obtain ⟨U3, hU3⟩ : ∃ U : St, U = ⟨V2.h.set (W.nx + 8) (some (.cells [] false 0)), V2.nx⟩ := ⟨_, rfl⟩
  have sU3 : Same W U3 := by rw [hU3]; exact ⟨sV2.1, fun c hc => by simp only; rw [T.get_set, if_neg (by omega)]; exact sV2.2 c hc⟩
  have gU3 : U3.h.get (W.nx + 8) = some (.cells [] false 0) := by rw [hU3]; simp only; rw [T.get_set, if_pos rfl]
  have nU3 : U3.nx = V2.nx := by rw [hU3]
  have nV2 := v2.1
  have i1W : IsSl .i64 U3 r1 l1 := sl_move i1V (by omega) fun c hc => by
    rw [hU3]
    simp only
    rw [T.get_set, if_neg (by rcases k1 c hc with h | h <;> omega)]
  have i2W : IsSl .i64 U3 r2 l2 := sl_move (ofG i2) (by omega) fun c hc => by
    rw [hU3]
    simp only
    rw [T.get_set, if_neg (by rcases k2 c hc with h | h <;> omega)]
  obtain ⟨r3, V3, e3, i3, v3, k3⟩ := app_cp (bytes := 8) (E := Int1) (l := l3) firm_int1 Nat.one_pos gU3 (by omega) (toG (h3.same sU3)) (by unfold room; omega) (by unfold room; omega)
  refine runD_app rfl (by rw [flush_one rfl]; simp only [↓stU, stD, reduceEqDiff, ↓reduceIte, ↓stV, stW, Nat.reduceAdd]; rw [← hU3]; exact e3) ?_ ?_
  · rw [flush_one rfl, ← hU3]
    exact ⟨v3.1, fun c hc _ => v3.2 c (by omega)⟩
  rw [flush_one rfl]
  simp only [↓stU, stD, reduceEqDiff, ↓reduceIte, ↓stV, stW, Nat.reduceAdd, p5, evQ_faddr, isLoad_faddr, faddr_ptr]
  refine ⟨rfl, sU3.trans v3, fun j hj => ?_, by simp only [↓stU, stD, reduceEqDiff, ↓reduceIte, ↓stV, stW, Nat.reduceAdd], by simp only [↓stU, stD, reduceEqDiff, ↓reduceIte, ↓stV, stW, Nat.reduceAdd]; exact i1W.same v3, by simp only [↓stU, stD, reduceEqDiff, ↓reduceIte, ↓stV, stW, Nat.reduceAdd]; exact i2W.same v3, by simp only [↓stU, stD, reduceEqDiff, ↓reduceIte, ↓stV, stW, Nat.reduceAdd]; exact ofG i3, fun c hc => ?_⟩
  · have : j = 0 ∨ j = 1 ∨ j = 2 ∨ j = 3 ∨ j = 4 ∨ j = 5 := by omega
    rcases this with rfl | rfl | rfl | rfl | rfl | rfl <;> simp only [↓stU, stD, reduceEqDiff, ↓reduceIte, ↓stV, stW, Nat.reduceAdd]
  · simp only [↓stU, stD, reduceEqDiff, ↓reduceIte, ↓stV, stW, Nat.reduceAdd] at hc
    rcases hc with h | h | h
    · rcases k1 c h with h | h <;> omega
    · rcases k2 c h with h | h <;> omega
    · rcases k3 c h with h | h <;> omega
end Go.Ev.Gl

namespace Go.Ev.Gl
variable {fns : T AFn}

theorem own_drw {ops : List AO} {W : St} {F : Fr} {inr : Bool} {nb : Nat} {k p f : AV} {xa xw xp : AV} {l1 l2 l3 : List Int} {Q : Out → Act' → St → Prop} (he : ops = ownP ++ ownX) (p5 : tmpV 5 F = .ptr nb 0) (hb : W.h.get nb = some (.cells [k, p, f, xa, xw, xp] false 0)) (lb : nb < W.nx) (h1 : IsSl .i64 W xa l1) (h2 : IsSl .i64 W xw l2) (h3 : IsSl .i64 W xp l3) (b1 : l1.length * 8 ≤ 140737488355328) (b2 : l2.length * 8 ≤ 140737488355328) (b3 : l3.length * 8 ≤ 140737488355328)
    (hQ : ∀ F' Z r1 r2 r3, (∀ j, j < 6 → tmpV j F' = tmpV j F) → SameBut nb W Z → Z.h.get nb = some (.cells [k, p, f, r1, r2, r3] false 0) → IsSl .i64 Z r1 l1 → IsSl .i64 Z r2 l2 → IsSl .i64 Z r3 l3 → (∀ c, (blkOf r1 = some c ∨ blkOf r2 = some c ∨ blkOf r3 = some c) → W.nx ≤ c) → Q .normal ⟨F', inr⟩ Z) : wpc fns (.drw ops) ⟨F, inr⟩ W Q := by
  have hlen : ops.length = 18 := by rw [he]; rfl
  refine wpc_pre (K := 13) (R := OwnR W F nb l1 l2 l3) he rfl rfl (fun S1 s h n => ownP_run p5 hb lb h1 h2 h3 b1 b2 b3 s (by rw [n, hlen])) ?_
  rintro F' S' ps hs ls ⟨rfl, sZ, hk, p37, i1, i2, i3, hbk⟩ hlast hld
  have p5' : tmpV 5 F' = .ptr nb 0 := (hk 5 (by omega)).trans p5
  have hb' := (sZ.2 _ lb).trans hb
  generalize hr1 : tmpV 28 F' = r1 at i1 hbk
  generalize hr2 : tmpV 32 F' = r2 at i2 hbk
  generalize hr3 : tmpV 36 F' = r3 at i3 hbk
  have m1 : ∀ i, i < 13 → Nat.testBit 8191 i = true := by decide
  unfold ownX
  refine wpd_x (v := .undef) (S1 := ⟨S'.h.set nb (some (.cells [k, p, f, r1, xw, xp] false 0)), S'.nx⟩) (hlast _ m1) (fun call => ?_) ?_
  · rw [evX_st]
    simp only [val_t, p37, hr1, flush_nil, IsSl.cells i1, osel_some]
    exact stc (S := S') hb' (by simp)
  simp only [wpd_qE, onSome_some, evQ_faddr, faddr_ptr, isLoad_faddr, bsel_false, val_t, flush_nil, putF_none, tmpV_putF, p5', reduceEqDiff, ↓reduceIte, Nat.reduceAdd]
  refine wpd_x (v := .undef) (S1 := ⟨(S'.h.set nb (some (.cells [k, p, f, r1, xw, xp] false 0))).set nb (some (.cells [k, p, f, r1, r2, xp] false 0)), S'.nx⟩) (show Nat.testBit 32767 13 = true by decide) (fun call => ?_) ?_
  · rw [evX_st]
    simp only [val_t, tmpV_putF, reduceEqDiff, ↓reduceIte, hr2, flush_nil, IsSl.cells i2, osel_some]
    exact stc (cs := [k, p, f, r1, xw, xp]) (p := 4) (S := ⟨S'.h.set nb (some (.cells [k, p, f, r1, xw, xp] false 0)), S'.nx⟩) (by simp only; rw [T.get_set, if_pos rfl]) (by simp)
  simp only [wpd_qE, onSome_some, evQ_faddr, faddr_ptr, isLoad_faddr, bsel_false, val_t, flush_nil, putF_none, tmpV_putF, p5', reduceEqDiff, ↓reduceIte, Nat.reduceAdd]
  refine wpd_x (v := .undef) (S1 := ⟨((S'.h.set nb (some (.cells [k, p, f, r1, xw, xp] false 0))).set nb (some (.cells [k, p, f, r1, r2, xp] false 0))).set nb (some (.cells [k, p, f, r1, r2, r3] false 0)), S'.nx⟩) (show Nat.testBit 131071 15 = true by decide) (fun call => ?_) ?_
  · rw [evX_st]
    simp only [val_t, tmpV_putF, reduceEqDiff, ↓reduceIte, hr3, flush_nil, IsSl.cells i3, osel_some]
    exact stc (cs := [k, p, f, r1, r2, xp]) (p := 5) (S := ⟨(S'.h.set nb (some (.cells [k, p, f, r1, xw, xp] false 0))).set nb (some (.cells [k, p, f, r1, r2, xp] false 0)), S'.nx⟩) (by simp only; rw [T.get_set, if_pos rfl]) (by simp)
  rw [wpd_nil]
  refine ⟨?_, ?_⟩
  · simp only [List.reverse_cons, List.append_assoc, List.singleton_append, List.cons_append, List.nil_append]
    exact hld _ _ _ m1
  · simp only [flush_nil, putF_none]
    have hne : ∀ {v : AV} {l : List Int}, IsSl .i64 S' v l → (∀ c, blkOf v = some c → W.nx ≤ c) → IsSl .i64 ⟨((S'.h.set nb (some (.cells [k, p, f, r1, xw, xp] false 0))).set nb (some (.cells [k, p, f, r1, r2, xp] false 0))).set nb (some (.cells [k, p, f, r1, r2, r3] false 0)), S'.nx⟩ v l := fun {v l} h hc => sl_move h (Nat.le_refl _) fun c hcc => by
      have := hc c hcc
      simp only
      rw [T.get_set, if_neg (by omega), T.get_set, if_neg (by omega), T.get_set, if_neg (by omega)]
    refine hQ _ _ r1 r2 r3 (fun j hj => ?_) ⟨sZ.1, fun c hc hn => ?_⟩ (by simp only; rw [T.get_set, if_pos rfl]) (hne i1 fun c hc => hbk c (.inl hc)) (hne i2 fun c hc => hbk c (.inr (.inl hc))) (hne i3 fun c hc => hbk c (.inr (.inr hc))) hbk
    · rw [tmpV_putF, if_neg (by omega), tmpV_putF, if_neg (by omega)]
      exact hk j hj
    · simp only
      rw [T.get_set, if_neg hn, T.get_set, if_neg hn, T.get_set, if_neg hn]
      exact sZ.2 c hc
end Go.Ev.Gl

namespace Go.Ev.Gl
variable {fns : T AFn}

/-! ## Nodes of one's own that grow in a block -/
def NodB (X : St) (P : Nat → Prop) (e : List AV) (a : PNode) : Prop := ∃ xa xw xp, e = [.int .i64 a.kind, .int .i64 a.player, .int .i64 a.info, xa, xw, xp] ∧ IsSl .i64 X xa a.next ∧ IsSl .i64 X xw a.weights ∧ IsSl .i64 X xp a.pay ∧ ∀ c, (blkOf xa = some c ∨ blkOf xw = some c ∨ blkOf xp = some c) → P c
def NodesB (X : St) (P : Nat → Prop) (cs : List AV) (l : List PNode) : Prop := cs.length = l.length * 6 ∧ ∀ (j : Nat) (a : PNode), l[j]? = some a → ∃ e : List AV, e.length = 6 ∧ (∀ (q : Nat) (x : AV), e[q]? = some x → cs[j * 6 + q]? = some x) ∧ NodB X P e a
theorem sl_low {k : IntKind} {X : St} {v : AV} {l : List Int} {c : Nat} (h : IsSl k X v l) (hc : blkOf v = some c) : c < X.nx := by
  rcases h with ⟨_, rfl | rfl⟩ | ⟨b, off, cap, o, cs, rfl, _, hb, _⟩
  · cases hc
  · cases hc
  · cases hc; exact hb
theorem NodB.move {X X' : St} {P P' : Nat → Prop} {e : List AV} {a : PNode} (h : NodB X P e a) (hn : X.nx ≤ X'.nx) (hh : ∀ c, c < X.nx → P c → X'.h.get c = X.h.get c ∧ P' c) : NodB X' P' e a := by
  obtain ⟨xa, xw, xp, rfl, h1, h2, h3, h4⟩ := h
  refine ⟨xa, xw, xp, rfl, sl_move h1 hn fun c hc => (hh c (sl_low h1 hc) (h4 c (.inl hc))).1, sl_move h2 hn fun c hc => (hh c (sl_low h2 hc) (h4 c (.inr (.inl hc)))).1, sl_move h3 hn fun c hc => (hh c (sl_low h3 hc) (h4 c (.inr (.inr hc)))).1, fun c hc => ?_⟩
  rcases hc with hc | hc | hc
  · exact (hh c (sl_low h1 hc) (h4 c (.inl hc))).2
  · exact (hh c (sl_low h2 hc) (h4 c (.inr (.inl hc)))).2
  · exact (hh c (sl_low h3 hc) (h4 c (.inr (.inr hc)))).2
theorem NodesB.move {X X' : St} {P P' : Nat → Prop} {cs : List AV} {l : List PNode} (h : NodesB X P cs l) (hn : X.nx ≤ X'.nx) (hh : ∀ c, c < X.nx → P c → X'.h.get c = X.h.get c ∧ P' c) : NodesB X' P' cs l :=
  ⟨h.1, fun j a hj => by
    obtain ⟨e, e1, e2, e3⟩ := h.2 j a hj
    exact ⟨e, e1, e2, e3.move hn hh⟩⟩
theorem NodesB.push {X : St} {P : Nat → Prop} {cs e : List AV} {l : List PNode} {a : PNode} (h : NodesB X P cs l) (he : NodB X P e a) : NodesB X P (cs ++ e) (l ++ [a]) := by
  have hl : e.length = 6 := by
    obtain ⟨_, _, _, rfl, _⟩ := he
    rfl
  refine ⟨by rw [List.length_append, h.1, hl, List.length_append, List.length_singleton, Nat.add_mul], fun j b hj => ?_⟩
  rw [List.getElem?_append] at hj
  split at hj
  · obtain ⟨e', e1, e2, e3⟩ := h.2 j b hj
    refine ⟨e', e1, fun q x hq => ?_, e3⟩
    have := e2 q x hq
    rw [List.getElem?_append_left (List.getElem?_eq_some_iff.1 this).1]
    exact this
  · rename_i hlt
    have hj0 : j - l.length = 0 := by
      rcases Nat.eq_zero_or_pos (j - l.length) with h0 | h0
      · exact h0
      · obtain ⟨q, hq⟩ := Nat.exists_eq_succ_of_ne_zero (Nat.pos_iff_ne_zero.1 h0)
        rw [hq] at hj
        simp at hj
    rw [hj0] at hj
    simp at hj
    subst hj
    have hjl : j = l.length := by omega
    subst hjl
    refine ⟨e, hl, fun q x hq => ?_, he⟩
    rw [List.getElem?_append_right (by rw [h.1]; omega), h.1, Nat.add_sub_cancel_left]
    exact hq
theorem NodesB.is {X0 X : St} {P : Nat → Prop} {pv : AV} {cs : List AV} {l : List PNode} (h : NodesB X P cs l) (hg : GrW 6 X0 X pv l.length cs) : IsSlG 6 NodeE X pv l := by
  rcases hg with ⟨rfl, h0, _⟩ | ⟨b, rfl, _, hb, hc, _⟩
  · exact .inl ⟨List.length_eq_zero_iff.1 h0, .inl rfl⟩
  · refine .inr ⟨b, 0, l.length, true, cs, rfl, Nat.le_refl _, hb, by unfold cellsAt; rw [hc]; rfl, fun j a hj => ?_⟩
    obtain ⟨e, e1, e2, xa, xw, xp, h3, h4, h5, h6, _⟩ := h.2 j a hj
    exact ⟨e, e1, fun q x hq => by rw [Nat.zero_add]; exact e2 q x hq, xa, xw, xp, h3, h4, h5, h6⟩
theorem evA_n6 {t : Nat} {x : Opd} {F : Fr} {id : Nat} {k p f xa xw xp z0 z1 z2 z3 z4 z5 : AV} (hx : x.val F = .agg [k, p, f, xa, xw, xp]) : evA (.bslice t 6 1 [z0, z1, z2, z3, z4, z5] [(0, x)]) F id = some (.sl id 0 1 1 false, .cells [k, p, f, xa, xw, xp] false 0) := by
  show (osel (fillP (repeatL [z0, z1, z2, z3, z4, z5] 1) [(0 * 6, 6, x.val F)]) fun cs => some (AV.sl id 0 1 1 false, AB.cells cs false 0)) = _
  rw [hx]
  show (osel (osel (AV.cells (.agg [k, p, f, xa, xw, xp])) _) _) = _
  rw [cells_agg, osel_some]
  rfl
theorem src6 {S : St} {t : Nat} {k p f xa xw xp : AV} {o : Bool} {sz : Nat} (h : S.h.get t = some (.cells [k, p, f, xa, xw, xp] o sz)) : srcCells (.sl t 0 1 1 false) S.h 6 1 = some [k, p, f, xa, xw, xp] := by
  show osel (cellsAt S.h t) (fun cs => cut cs 0 (1 * 6)) = _
  unfold cellsAt
  rw [h]
  rfl
end Go.Ev.Gl

namespace Go.Ev.Gl
variable {fns : T AFn}

/-! ## A game of one's own -/
theorem GrW.appB {k n m bytes : Nat} {S0 S : St} {v x : AV} {cs new : List AV} (h : GrW k S0 S v n cs) (hS : Same S0 S) (hl : lenOfV x = some m) (hs : srcCells x S.h k m = some new) (hn : new.length = m * k) (hm : 0 < m) (h1 : n + m ≤ room) (h2 : (n + m) * bytes ≤ room) :
    ∃ v' S', appendV bytes k v x S = some (v', S') ∧ GrW k S0 S' v' (n + m) (cs ++ new) ∧ Same S0 S' ∧ S.nx ≤ S'.nx ∧ (∀ c, c < S.nx → blkOf v ≠ some c → S'.h.get c = S.h.get c) ∧ blkOf v' = some S.nx := by
  rcases h with ⟨rfl, rfl, rfl⟩ | ⟨b, rfl, hb0, hb, hg, hc⟩
  · refine ⟨.sl S.nx 0 m m true, ⟨S.h.set S.nx (some (.cells new true k)), S.nx + 1⟩, ?_, .inr ⟨S.nx, by rw [Nat.zero_add], hS.1, by simp, ?_, by rw [Nat.zero_add]; exact hn⟩, hS.trans (Same.alloc S _), by simp, fun c hc _ => (Same.alloc S _).2 c hc, rfl⟩
    · show (osel (lenOfV x) fun j => osel (srcCells x S.h k j) fun new => appV .nilsl bytes k j new S) = _
      rw [hl, osel_some, hs, osel_some]
      show appNil bytes k m new S = _
      unfold appNil
      rw [show Nat.beq m 0 = false from Bool.eq_false_iff.2 fun e => by rw [Nat.beq_eq] at e; omega, bsel_false, Nat.ble_eq_true_of_le (by omega), bsel_true, Nat.ble_eq_true_of_le (by rw [Nat.zero_add] at h2; exact h2), bsel_true]
      rfl
    · simp only
      rw [T.get_set, if_pos rfl]
      rfl
  · refine ⟨.sl S.nx 0 (n + m) (n + m) true, ⟨(S.h.set b none).set S.nx (some (.cells (cs ++ new) true k)), S.nx + 1⟩, ?_, .inr ⟨S.nx, rfl, hS.1, by simp, ?_, by rw [List.length_append, hc, hn, Nat.add_mul]⟩, ⟨Nat.le_trans hS.1 (by simp), fun c hc => ?_⟩, by simp, fun c hc hne => ?_, rfl⟩
    · show (osel (lenOfV x) fun j => osel (srcCells x S.h k j) fun new => appV (.sl b 0 n n true) bytes k j new S) = _
      rw [hl, osel_some, hs, osel_some]
      show appSl bytes k b 0 n n true m new S = _
      unfold appSl
      have e2 : Nat.ble (n + m) n = false := by rw [Bool.eq_false_iff]; intro h; have := Nat.le_of_ble_eq_true h; omega
      rw [e2, bsel_false, Nat.ble_eq_true_of_le h1, bsel_true, Nat.ble_eq_true_of_le h2, bsel_true, hg, osel_some]
      have e3 : cut cs 0 (n * k) = some cs := by
        unfold cut
        rw [takeL_eq, dropL_eq, List.drop_zero, if_pos (by omega), List.take_of_length_le (by omega)]
      have e4 : Nat.beq (0 + n * k) (lenL cs) = true := by rw [lenL_eq, hc, Nat.beq_eq]; omega
      have e5 : Nat.beq k k = true := Nat.beq_refl k
      simp only [growB, e3, osel_some, bsel_true, e4, e5, grown, appL_eq]
    · simp only
      rw [T.get_set, if_pos rfl]
    · simp only
      have := hS.1
      rw [T.get_set, if_neg (by omega), T.get_set, if_neg (by omega)]
      exact hS.2 c hc
    · simp only
      have : c ≠ b := fun e => hne (by rw [e]; rfl)
      rw [T.get_set, if_neg (by omega), T.get_set, if_neg this]
def OgI (X0 : St) (gb rb ob : Nat) (jv : AV) (g : PGame) (k : Nat) (A : Act') (X : St) : Prop := A.inr = false ∧ X0.nx ≤ X.nx ∧ (∀ c, c < X0.nx → c ≠ ob → X.h.get c = X0.h.get c) ∧ ∃ (i : Nat) (pv : AV) (cs : List AV), i + k = g.nodes.length ∧ X.h.get ob = some (.cells [.int .i64 g.players, pv, jv] false 0) ∧ GrW 6 X0 X pv i cs ∧ NodesB X (fun c => X0.nx ≤ c ∧ blkOf pv ≠ some c) cs (g.nodes.take i) ∧ tmpV 1 A.F = .ptr gb 0 ∧ tmpV 2 A.F = .ptr rb 0 ∧ tmpV 3 A.F = .ptr ob 0 ∧ tmpV 4 A.F = .int .i64 (i : Int)
theorem runD_stP {W : Nat → Prop} {h0 : T AB} {base : Nat} {m i : Nat} {l : List AO} {F : Fr} {S : St} {last : Option Nat} {Q : Fr → St → List Pend → Prop} {n j id : Nat} {x v : Opd} {cs cs' : List AV} (ht : Nat.testBit m j = true) (h : inMask last m = true) (hx : x.val F = .ptr id 0) (hv : (v.val F).cells = some cs') (h1 : cs.length = n) (h2 : cs'.length = n) (hid : base ≤ id)
    (hr : ∀ S1, SameBut id S S1 → S1.nx = S.nx → S1.h.get id = some (.cells cs' false 0) → runD fns W h0 base l (i + 1) F S1 [] (some i) Q) : runD fns W h0 base (⟨none, .x (.st n x v), none, m⟩ :: l) i F S [⟨j, id, .cells cs false 0⟩] last Q := by
  have hb : (⟨S.h.set id (some (.cells cs false 0)), S.nx⟩ : St).h.get id = some (.cells cs false 0) := by simp only; rw [T.get_set, if_pos rfl]
  refine runD_st (S1 := ⟨(S.h.set id (some (.cells cs false 0))).set id (some (.cells cs' false 0)), S.nx⟩) h ?_ ⟨Nat.le_refl _, fun c hc hw => ?_⟩ ?_
  · rw [flush_one ht, hv, osel_some, hx]; exact xst_all hb h1 h2
  · simp only
    rw [flush_one ht, T.get_set, if_neg (by omega)]
  · rw [flush_one ht]
    refine hr _ ⟨Nat.le_refl _, fun c hc hne => ?_⟩ rfl ?_
    · simp only
      rw [T.get_set, if_neg hne, T.get_set, if_neg hne]
    · simp only
      rw [T.get_set, if_pos rfl]

theorem buildG {F : Fr} {h : Ev.T AB} {ps : Int} {r : AV} (h7 : tmpV 7 F = .int .i64 ps) (h11 : tmpV 11 F = r) (hr : r.cells = some [r]) : evQ (.build [.int .i64 0, .nilsl, .nilsl] [(0, 1, .t 7), (2, 1, .t 11)]) F h = some (.agg [.int .i64 ps, .nilsl, r]) := by
  show (osel (fillP _ (partsV F [(0, 1, .t 7), (2, 1, .t 11)])) fun cs => some (AV.agg cs)) = _
  simp only [partsV, show (Opd.t 7).val F = .int .i64 ps from h7, show (Opd.t 11).val F = r from h11, fillP, cells_int, hr, osel_some]
  rfl
theorem slG_cells {k : Nat} {α : Type} {E : St → List AV → α → Prop} {S : St} {v : AV} {l : List α} (h : IsSlG k E S v l) : v.cells = some [v] := by
  rcases h with ⟨_, rfl | rfl⟩ | ⟨b, off, cap, o, cs, rfl, _⟩ <;> rfl
set_option maxHeartbeats 4000000 in
theorem own_spec {S : St} {nv iv : AV} {g : PGame} (H : Has fns) (hn : IsSlG 6 NodeE S nv g.nodes) (hi : IsSlG 2 InfoE S iv g.infos) (hT : Tame g) (hln : g.nodes.length ≤ 100000) :
    wpf fns (.fn 41 [] []) [.agg [.int .i64 g.players, nv, iv]] S fun r X => Same S X ∧ ∃ mv jv, r = .agg [.int .i64 g.players, mv, jv] ∧ IsSlG 6 NodeE X mv g.nodes ∧ IsSlG 2 InfoE X jv g.infos := by
  refine wpf_fn H.f41 (by simp) ?_
  simp only [↓stU, stD, reduceEqDiff, ↓reduceIte, Nat.reduceAdd]
  refine wsr ?_
  refine wpo_box (cs := [.int .i64 g.players, nv, iv]) rfl ?_
  intro S1 s1 n1 c1
  refine wpo_alloc ?_
  intro S2 s2 n2 c2
  simp only [↓stU, stD, reduceEqDiff, ↓reduceIte, Nat.reduceAdd]
  have d1 := (s2.2 _ (show S.nx < S1.nx by omega)).trans c1
  have sS := s1.trans s2
  have lt1 : S.nx < S2.nx := by omega
  have siv := IsSlG.self hi
  have hib := hT.1
  refine wpc_seq (wpc_drd2 (fun _ => False) ?_)
  intro Y sY hY nY
  simp only [List.length_cons, List.length_nil, Nat.reduceAdd] at nY
  simp only [↓stU, stD, reduceEqDiff, ↓reduceIte, ↓stV, stW, Nat.reduceAdd, evQ_faddr, isLoad_faddr, faddr_ptr, lg3_0 d1, lg3_2 d1, lt1, not_false_eq_true, siv, evA_none]
  obtain ⟨U, hU⟩ : ∃ U : St, U = ⟨Y.h.set (S2.nx + 2) (some (.cells [] false 0)), Y.nx⟩ := ⟨_, rfl⟩
  have sU : Same S2 U := by rw [hU]; exact ⟨sY.1, fun c hc => by simp only; rw [T.get_set, if_neg (by omega)]; exact sY.2 c hc⟩
  have gU : U.h.get (S2.nx + 2) = some (.cells [] false 0) := by rw [hU]; simp only; rw [T.get_set, if_pos rfl]
  have nU : U.nx = S2.nx + 9 := by rw [hU]; exact nY
  obtain ⟨jv, V, e1, i1, v1, k1⟩ := app_cp (k := 2) (bytes := 16) (E := InfoE) (l := g.infos) firm_info (by decide) gU (by omega) (IsSlG.same (E := InfoE) firm_info hi (sS.trans sU)) (by unfold room; omega) (by unfold room; omega)
  have nV := v1.1
  refine runD_app rfl (by rw [flush_one rfl]; simp only [↓stU, stD, reduceEqDiff, ↓reduceIte, ↓stV, stW, Nat.reduceAdd]; rw [← hU]; exact e1) ?_ ?_
  · rw [flush_one rfl, ← hU]
    exact ⟨v1.1, fun c hc _ => v1.2 c (by omega)⟩
  rw [flush_one rfl]
  simp only [↓stU, stD, reduceEqDiff, ↓reduceIte, ↓stV, stW, Nat.reduceAdd, isLoad_build]
  rw [buildG (ps := g.players) (r := jv) (by simp only [↓stU, stD, reduceEqDiff, ↓reduceIte, ↓stV, stW, Nat.reduceAdd]) (by simp only [↓stU, stD, reduceEqDiff, ↓reduceIte, ↓stV, stW, Nat.reduceAdd]) (slG_cells i1)]
  simp only [↓stU, stD, reduceEqDiff, ↓reduceIte, ↓stV, stW, Nat.reduceAdd, evA_alloc, contA_some, Nat.reduceAdd]
  refine runD_stP (by rfl) rfl (by simp only [↓stU, stD, reduceEqDiff, ↓reduceIte, ↓stV, stW, Nat.reduceAdd]) (by simp only [↓stU, stD, reduceEqDiff, ↓reduceIte, ↓stV, stW, Nat.reduceAdd, cells_agg]; rfl) rfl rfl (by omega) ?_
  intro Z z nZ gZ
  have sZ : Same S2 Z := by exact z.same (sU.trans v1) (by omega)
  have hjb : ∀ c, blkOf jv = some c → c ≠ S2.nx + 7 := fun c hc => by rcases k1 c hc with h | h <;> omega
  have iZ : IsSlG 2 InfoE Z jv g.infos := IsSlG.moveB i1 z.1 (fun c hc => z.2 c (by
    rcases i1 with ⟨_, rfl | rfl⟩ | ⟨b, off, cap, o, cs, rfl, _, hb, _⟩
    · cases hc
    · cases hc
    · cases hc; exact hb) (hjb c hc)) fun _ _ h => h
  simp only [↓stU, stD, reduceEqDiff, ↓reduceIte, ↓stV, stW, Nat.reduceAdd]
  have ob7 : S2.nx + 7 < Z.nx := by omega
  have gbZ := (sZ.2 _ lt1).trans d1
  have rbZ := (sZ.2 _ (show S1.nx < S2.nx by omega)).trans c2
  have hjl : ∀ c, blkOf jv = some c → c < Z.nx := fun c hc => by
    rcases iZ with ⟨_, rfl | rfl⟩ | ⟨b, off, cap, o, cs, rfl, _, hb, _⟩
    · cases hc
    · cases hc
    · cases hc; exact hb
  have sSZ := sS.trans sZ
  refine wpc_seq (wpc_mono (Q := fun o A' X => o = .normal ∧ OgI Z S.nx S1.nx (S2.nx + 7) jv g 0 A' X) (wpc_seq (wpc_reg ?_)) ?_)
  · simp only [↓stU, stD, reduceEqDiff, ↓reduceIte, ↓stV, stW, Nat.reduceAdd]
    refine wpc_block (wpc_loop (OgI Z S.nx S1.nx (S2.nx + 7) jv g) ?_ g.nodes.length _ _ ⟨rfl, Nat.le_refl _, fun _ _ _ => rfl, 0, .nilsl, [], by omega, gZ, .inl ⟨rfl, rfl, rfl⟩, ⟨rfl, fun j a hj => by simp at hj⟩, by simp only [↓stU, stD, reduceEqDiff, ↓reduceIte, ↓stV, stW, Nat.reduceAdd], by simp only [↓stU, stD, reduceEqDiff, ↓reduceIte, ↓stV, stW, Nat.reduceAdd], by simp only [↓stU, stD, reduceEqDiff, ↓reduceIte, ↓stV, stW, Nat.reduceAdd], by simp only [↓stU, stD, reduceEqDiff, ↓reduceIte, ↓stV, stW, Nat.reduceAdd]⟩)
    rintro k ⟨F, inr⟩ X ⟨q0, nX, hR, i, pv, cs, hik, hob, hg, hB, p1, p2, p3, p4⟩
    simp only at q0 p1 p2 p3 p4
    subst q0
    have gbX := (hR S.nx (by omega) (by omega)).trans gbZ
    have sSX : Same S X := ⟨Nat.le_trans sSZ.1 nX, fun c hc => (hR c (by have := sSZ.1; omega) (by omega)).trans (sSZ.2 c hc)⟩
    refine wss ?_
    simp only [↓stU, stD, reduceEqDiff, ↓reduceIte, ↓stV, stW, Nat.reduceAdd, p1, p4, evQ_faddr, faddr_ptr, lg3_1 gbX, hn.len]
    by_cases hlt : i < g.nodes.length
    rotate_left
    · refine wpc_non (by simp only [↓stU, stD, reduceEqDiff, ↓reduceIte, ↓stV, stW, Nat.reduceAdd, decide_eq_false (show ¬ (i : Int) < ((g.nodes.length : Nat) : Int) by omega)]) (wpc_exit ?_)
      simp only [↓stU, stD, reduceEqDiff, ↓reduceIte, ↓stV, stW, Nat.reduceAdd]
      obtain rfl : k = 0 := by omega
      exact ⟨rfl, nX, hR, i, pv, cs, hik, hob, hg, hB, by simp only [↓stU, stD, reduceEqDiff, ↓reduceIte, ↓stV, stW, Nat.reduceAdd, p1], by simp only [↓stU, stD, reduceEqDiff, ↓reduceIte, ↓stV, stW, Nat.reduceAdd, p2], by simp only [↓stU, stD, reduceEqDiff, ↓reduceIte, ↓stV, stW, Nat.reduceAdd, p3], by simp only [↓stU, stD, reduceEqDiff, ↓reduceIte, ↓stV, stW, Nat.reduceAdd, p4]⟩
    refine wpc_yes (by simp only [↓stU, stD, reduceEqDiff, ↓reduceIte, ↓stV, stW, Nat.reduceAdd, decide_eq_true (show (i : Int) < ((g.nodes.length : Nat) : Int) by omega)]) (wpc_skip ?_)
    try simp only [↓stU, stD, reduceEqDiff, ↓reduceIte, ↓stV, stW, Nat.reduceAdd]
    obtain ⟨t1, t2, t3⟩ := hT.2 _ (List.mem_of_getElem? (nodeAt_some hlt))
    obtain ⟨_, bx, qx, hiax, hbx, _, ⟨xa, xw, xp, rfl, hxa, hxw, hxp⟩, hldx, _⟩ := IsSlG.at (IsSlG.same (E := NodeE) firm_node hn sSX) (by decide) (nodeAt_some hlt)
    have w0 : IntKind.i64.wrap ((i : Int) + 1) = ((i + 1 : Nat) : Int) := by rw [wrap_i64 (by omega) (by omega)]; omega
    refine wpc_seq (wpc_block (wpc_seq (wpc_reg ?_)))
    simp only [↓stU, stD, reduceEqDiff, ↓reduceIte, Nat.reduceAdd, p1, p4, evQ_faddr, faddr_ptr, lg3_1 gbX, natOf_cast, hiax, hldx]
    refine wpo_alloc ?_
    intro W1 v1' k1' h1'
    refine wpo_st (b := X.nx) (by simp only [↓stU, stD, reduceEqDiff, ↓reduceIte, Nat.reduceAdd]) (by simp only [↓stU, stD, reduceEqDiff, ↓reduceIte, Nat.reduceAdd]; exact cells_agg _) h1' rfl rfl ?_
    intro W v2 k2 h2
    simp only [↓stU, stD, reduceEqDiff, ↓reduceIte, Nat.reduceAdd]
    have sXW : Same X W := v2.same v1' (Nat.le_refl _)
    have lxW : X.nx < W.nx := by omega
    refine wpc_seq (own_drw rfl (by simp only [↓stU, stD, reduceEqDiff, ↓reduceIte, Nat.reduceAdd]) h2 lxW (hxa.same sXW) (hxw.same sXW) (hxp.same sXW) t1 t2 t3 ?_)
    intro F' Y2 r1 r2 r3 hk sY2 hnb i1' i2' i3' hbk
    have q1 : tmpV 1 F' = .ptr S.nx 0 := (hk 1 (by omega)).trans (by simp only [↓stU, stD, reduceEqDiff, ↓reduceIte, Nat.reduceAdd, p1])
    have q2 : tmpV 2 F' = .ptr S1.nx 0 := (hk 2 (by omega)).trans (by simp only [↓stU, stD, reduceEqDiff, ↓reduceIte, Nat.reduceAdd, p2])
    have q3 : tmpV 3 F' = .ptr (S2.nx + 7) 0 := (hk 3 (by omega)).trans (by simp only [↓stU, stD, reduceEqDiff, ↓reduceIte, Nat.reduceAdd, p3])
    have q4 : tmpV 4 F' = .int .i64 (i : Int) := (hk 4 (by omega)).trans (by simp only [↓stU, stD, reduceEqDiff, ↓reduceIte, Nat.reduceAdd, p4])
    have q5 : tmpV 5 F' = .ptr X.nx 0 := (hk 5 (by omega)).trans (by simp only [↓stU, stD, reduceEqDiff, ↓reduceIte, Nat.reduceAdd])
    clear hk p1 p2 p3 p4
    have nY2 := sY2.1
    have old : ∀ c, c < X.nx → Y2.h.get c = X.h.get c := fun c hc => (sY2.2 c (by omega) (by omega)).trans (sXW.2 c hc)
    have obY := (old _ (show S2.nx + 7 < X.nx by omega)).trans hob
    have hgY : GrW 6 Z Y2 pv i cs := hg.move (by omega) fun c hc => old c (hg.blk hc).2.1
    have hBY : NodesB Y2 (fun c => Z.nx ≤ c ∧ blkOf pv ≠ some c) cs (g.nodes.take i) := hB.move (by omega) fun c hc hP => ⟨old c hc, hP⟩
    have heY : NodB Y2 (fun c => W.nx ≤ c) [.int .i64 (nodeAt g i).kind, .int .i64 (nodeAt g i).player, .int .i64 (nodeAt g i).info, r1, r2, r3] (nodeAt g i) := ⟨r1, r2, r3, rfl, i1', i2', i3', hbk⟩
    refine wpc_reg ?_
    simp only [↓stU, stD, reduceEqDiff, ↓reduceIte, Nat.reduceAdd, q3, q5, evQ_faddr, faddr_ptr, lg3_1 obY, ldN hnb]
    refine wpo_al (evA_n6 (k := .int .i64 (nodeAt g i).kind) (p := .int .i64 (nodeAt g i).player) (f := .int .i64 (nodeAt g i).info) (xa := r1) (xw := r2) (xp := r3) (by simp only [↓stU, stD, reduceEqDiff, ↓reduceIte, Nat.reduceAdd])) ?_
    intro U2 u1 m1 g1
    obtain ⟨pv', U', eA, gA, sA, nA, rA, bA⟩ := GrW.appB (k := 6) (m := 1) (bytes := 96) (S0 := ⟨U2.h, Z.nx⟩) (show GrW 6 ⟨U2.h, Z.nx⟩ U2 pv i cs from hgY.step u1) ⟨by show Z.nx ≤ U2.nx; omega, fun _ _ => rfl⟩ rfl (src6 g1) rfl (by omega) (by unfold room; omega) (by unfold room; omega)
    try simp only [↓stU, stD, reduceEqDiff, ↓reduceIte, Nat.reduceAdd]
    refine wpo_x (fun call => by simp only [↓stU, stD, reduceEqDiff, ↓reduceIte, Nat.reduceAdd, evX_app]; exact eA) ?_
    have hoff := hgY.off obY
    have obU := (rA _ (by omega) hoff).trans ((u1.2 _ (by omega)).trans obY)
    have hcl := gA.cells
    simp only [↓stU, stD, reduceEqDiff, ↓reduceIte, Nat.reduceAdd, q3, evQ_faddr, faddr_ptr]
    refine wpo_x (fun call => by simp only [↓stU, stD, reduceEqDiff, ↓reduceIte, Nat.reduceAdd, evX_st, hcl, osel_some]; exact stc (cs := [.int .i64 g.players, pv, jv]) (p := 1) (S := U') obU (by simp)) ?_
    simp only [↓stU, stD, reduceEqDiff, ↓reduceIte, Nat.reduceAdd]
    refine wpc_reg ?_
    simp only [↓stU, stD, reduceEqDiff, ↓reduceIte, ↓stV, stW, Nat.reduceAdd, q4, w0]
    have fin : ∀ c, c ≠ S2.nx + 7 → c < Y2.nx → blkOf pv ≠ some c → (U'.h.set (S2.nx + 7) (some (.cells ([.int .i64 g.players, pv, jv].set 1 pv') false 0))).get c = Y2.h.get c := fun c h1 h2 h3 => by
      rw [T.get_set, if_neg h1, rA c (by omega) h3, u1.2 c h2]
    refine ⟨k - 1, by omega, rfl, by show Z.nx ≤ U'.nx; omega, fun c hc hne => (fin c hne (by omega) fun e => by have := (hgY.blk e).1; omega).trans ((old c (by omega)).trans (hR c hc hne)), i + 1, pv', _, by omega, by simp only; rw [T.get_set, if_pos rfl]; rfl, GrW.move (S := U') (by exact gA) (Nat.le_refl _) fun c hc => ?_, ?_, by simp only [↓stU, stD, reduceEqDiff, ↓reduceIte, ↓stV, stW, Nat.reduceAdd, q1], by simp only [↓stU, stD, reduceEqDiff, ↓reduceIte, ↓stV, stW, Nat.reduceAdd, q2], by simp only [↓stU, stD, reduceEqDiff, ↓reduceIte, ↓stV, stW, Nat.reduceAdd, q3], by simp only [↓stU, stD, reduceEqDiff, ↓reduceIte, ↓stV, stW, Nat.reduceAdd]⟩
    · simp only
      rw [T.get_set, if_neg (by rw [bA] at hc; cases hc; omega)]
    · rw [List.take_add_one, nodeAt_some hlt]
      refine NodesB.push (hBY.move (by show Y2.nx ≤ U'.nx; omega) fun c hc hP => ⟨fin c (by have := hP.1; omega) hc hP.2, hP.1, fun e => by rw [bA] at e; cases e; omega⟩) (heY.move (by show Y2.nx ≤ U'.nx; omega) fun c hc hP => ⟨fin c (by omega) hc fun e => by have := (hg.blk e).2.1; omega, by omega, fun e => by rw [bA] at e; cases e; omega⟩)
  rintro o ⟨F, inr⟩ X ⟨rfl, q0, nX, hR, i, pv, cs, hik, hob, hg, hB, p1, p2, p3, p4⟩
  simp only at q0 p1 p2 p3 p4
  subst q0
  obtain rfl : i = g.nodes.length := by omega
  rw [List.take_length] at hB
  have rbX := (hR S1.nx (by omega) (by omega)).trans rbZ
  have sSX : Same S X := ⟨Nat.le_trans sSZ.1 nX, fun c hc => (hR c (by have := sSZ.1; omega) (by omega)).trans (sSZ.2 c hc)⟩
  have iX : IsSlG 2 InfoE X jv g.infos := IsSlG.moveB iZ nX (fun c hc => hR c (hjl c hc) (hjb c hc)) fun _ _ h => h
  try simp only [↓stU, stD, reduceEqDiff, ↓reduceIte, Nat.reduceAdd]
  refine wsr ?_
  simp only [↓stU, stD, reduceEqDiff, ↓reduceIte, Nat.reduceAdd, p2, p3, ld3 hob]
  refine wpo_st (b := S1.nx) (cs' := [.int .i64 g.players, pv, jv]) (by simp only [↓stU, stD, reduceEqDiff, ↓reduceIte, Nat.reduceAdd, p2]) (by simp only [↓stU, stD, reduceEqDiff, ↓reduceIte, Nat.reduceAdd]; exact cells_agg _) rbX rfl rfl ?_
  intro X' x' n' g'
  simp only [↓stU, stD, reduceEqDiff, ↓reduceIte, Nat.reduceAdd]
  refine wpc_ret ?_
  have sX' : Same S X' := x'.same sSX (by omega)
  have nX' := x'.1
  have gX' : GrW 6 Z X' pv g.nodes.length cs := hg.move nX' fun c hc => x'.2 c (hg.blk hc).2.1 (by have := (hg.blk hc).1; omega)
  have bX' : NodesB X' (fun c => Z.nx ≤ c ∧ blkOf pv ≠ some c) cs g.nodes := hB.move nX' fun c hc hP => ⟨x'.2 c hc (by have := hP.1; omega), hP⟩
  have jX' : IsSlG 2 InfoE X' jv g.infos := IsSlG.moveB iX nX' (fun c hc => x'.2 c (Nat.lt_of_lt_of_le (hjl c hc) nX) (by rcases k1 c hc with h | h <;> omega)) fun _ _ h => h
  simp only [↓stU, stD, reduceEqDiff, ↓reduceIte, Nat.reduceAdd, p2, results_cell, ld3 g']
  exact ⟨sX', pv, jv, rfl, bX'.is gX', jX'⟩
end Go.Ev.Gl

namespace Go.Ev.Gl
variable {fns : T AFn}

/-! ## DealPlays -/
theorem isl_when {S : St} {v : AV} {l : List Int} {e : Int} (h0 : e ≠ 0 → v = .nilsl) (h1 : e = 0 → IsSl .i64 S v l) : IsSl .i64 S v (if e = 0 then l else []) := by
  by_cases h : e = 0
  · rw [if_pos h]; exact h1 h
  · rw [if_neg h, h0 h]; exact .inl ⟨rfl, .inl rfl⟩
theorem PathR.i {S X : St} {v r : AV} {g : PGame} {l : List Int} {pr : Nat → Nat} {s : Int} (h : PathR S v g l pr s r X) (H : Has fns) (hc : IsSl .i64 S v l) : Same S X ∧ ∃ x, r = .tup [x, .int .i64 (pathE g l pr s)] ∧ IsSl .i64 X x (if pathE g l pr s = 0 then pathC g l s else []) := by
  obtain ⟨h1, x, rfl, h2, h3⟩ := h
  exact ⟨h1, x, rfl, isl_when h2 fun e => by rw [← (path_facts H hc e).2.1]; exact h3 e⟩
theorem PayR.i {S X : St} {r : AV} {g : PGame} {l : List Int} {pr : Nat → Nat} {s : Int} (h : PayR S g l pr s r X) : Same S X ∧ ∃ x, r = .tup [x, .int .i64 (pathE g l pr s)] ∧ IsSl .i64 X x (if pathE g l pr s = 0 then payL g l s else []) := by
  obtain ⟨h1, x, rfl, h2, h3⟩ := h
  exact ⟨h1, x, rfl, isl_when h2 h3⟩
theorem path_lens {S : St} {v : AV} {g : PGame} {l : List Int} {pr : Nat → Nat} {s : Int} (H : Has fns) (hc : IsSl .i64 S v l) : (if pathE g l pr s = 0 then pathC g l s else []).length ≤ 10000000 ∧ (if pathE g l pr s = 0 then payL g l s else []).length ≤ 10000000 := by
  by_cases e : pathE g l pr s = 0
  · obtain ⟨_, _, _, a, _, b⟩ := path_facts H hc e
    rw [if_pos e, if_pos e]
    exact ⟨by omega, b⟩
  · rw [if_neg e, if_neg e]
    exact ⟨by simp, by simp⟩
set_option maxHeartbeats 4000000 in
theorem plays_spec {S : St} {nv iv cv : AV} {g : PGame} {l : List Int} {s : Int} (H : Has fns) (hAw : ∀ S, wpf fns (.fn 32 [] []) [] S fun r S' => r = .bool true ∧ Same S S') (hn : IsSlG 6 NodeE S nv g.nodes) (hi : IsSlG 2 InfoE S iv g.infos) (hT : Tame g) (hc : IsSl .i64 S cv l) (hs : s ≤ 9223372036854775807) :
    wpf fns (.fn 9 [] []) [.agg [.int .i64 g.players, nv, iv], cv, .int .i64 s] S fun r S' => r = .bool true ∧ Same S S' := by
  refine wpf_fn H.f9 (by simp) ?_
  simp only [↓stU, stD, reduceEqDiff, ↓reduceIte, ↓stV, stW, Nat.reduceAdd]
  refine wsr ?_
  refine wpo_box (cs := [.int .i64 g.players, nv, iv]) rfl ?_
  intro S1 s1 n1 c1
  simp only [↓stU, stD, reduceEqDiff, ↓reduceIte, ↓stV, stW, Nat.reduceAdd]
  refine wss ?_
  simp only [↓stU, stD, reduceEqDiff, ↓reduceIte, ↓stV, stW, Nat.reduceAdd, lg3_a c1]
  refine wpo_call ?_
  simp only [↓stU, stD, reduceEqDiff, ↓reduceIte, ↓stV, stW, Nat.reduceAdd]
  refine wpf_mono (large_spec H (IsSlG.same (E := NodeE) firm_node hn s1)) ?_
  rintro _ S2 ⟨rfl, s2⟩
  have c2 := (s2.2 _ (show S.nx < S1.nx by omega)).trans c1
  have sS2 := s1.trans s2
  have l2 : S.nx < S2.nx := Nat.lt_of_lt_of_le (show S.nx < S1.nx by omega) s2.1
  have hcl := hc.len
  have small : ¬ largeG g → g.nodes.length ≤ 100000 := fun h => by unfold largeG at h; omega
  by_cases hb1 : largeG g
  · simp only [↓stU, stD, reduceEqDiff, ↓reduceIte, ↓stV, stW, Nat.reduceAdd, decide_eq_true hb1]
    refine wpc_yes (by simp only [↓stU, stD, reduceEqDiff, ↓reduceIte, ↓stV, stW, Nat.reduceAdd]) ?_
    refine wsr ?_
    simp only [↓stU, stD, reduceEqDiff, ↓reduceIte, ↓stV, stW, Nat.reduceAdd]
    refine wpo_call ?_
    simp only [↓stU, stD, reduceEqDiff, ↓reduceIte, ↓stV, stW, Nat.reduceAdd]
    refine wpf_mono (hAw _) ?_
    rintro _ S3 ⟨rfl, s3⟩
    try simp only [↓stU, stD, reduceEqDiff, ↓reduceIte, ↓stV, stW, Nat.reduceAdd]
    refine wpc_ret ?_
    simp only [↓stU, stD, reduceEqDiff, ↓reduceIte, ↓stV, stW, Nat.reduceAdd]
    exact sS2.trans s3
  by_cases hb2 : 300 < l.length
  · simp only [↓stU, stD, reduceEqDiff, ↓reduceIte, ↓stV, stW, Nat.reduceAdd, decide_eq_false hb1, hcl, Int.ofNat_eq_natCast]
    refine wpc_yes (by simp only [↓stU, stD, reduceEqDiff, ↓reduceIte, ↓stV, stW, Nat.reduceAdd, decide_eq_true (show (300 : Int) < ((l.length : Nat) : Int) by omega)]) ?_
    refine wsr ?_
    simp only [↓stU, stD, reduceEqDiff, ↓reduceIte, ↓stV, stW, Nat.reduceAdd]
    refine wpo_call ?_
    simp only [↓stU, stD, reduceEqDiff, ↓reduceIte, ↓stV, stW, Nat.reduceAdd]
    refine wpf_mono (hAw _) ?_
    rintro _ S3 ⟨rfl, s3⟩
    try simp only [↓stU, stD, reduceEqDiff, ↓reduceIte, ↓stV, stW, Nat.reduceAdd]
    refine wpc_ret ?_
    simp only [↓stU, stD, reduceEqDiff, ↓reduceIte, ↓stV, stW, Nat.reduceAdd]
    exact sS2.trans s3
  have hln := small hb1
  obtain ⟨pr, hpr⟩ : ∃ pr : Nat → Nat, formE g = 0 → Prods g pr := by
    by_cases h0 : formE g = 0
    · obtain ⟨pr, h⟩ := exists_prods (good_of h0)
      exact ⟨pr, fun _ => h⟩
    · exact ⟨fun _ => 1, fun h => absurd h h0⟩
  simp only [↓stU, stD, reduceEqDiff, ↓reduceIte, ↓stV, stW, Nat.reduceAdd, decide_eq_false hb1, hcl, Int.ofNat_eq_natCast]
  refine wpc_non (by simp only [↓stU, stD, reduceEqDiff, ↓reduceIte, ↓stV, stW, Nat.reduceAdd, decide_eq_false (show ¬ (300 : Int) < ((l.length : Nat) : Int) by omega)]) (wpc_skip ?_)
  try simp only [↓stU, stD, reduceEqDiff, ↓reduceIte, ↓stV, stW, Nat.reduceAdd]
  refine wsr ?_
  simp only [↓stU, stD, reduceEqDiff, ↓reduceIte, Nat.reduceAdd, lg3_a c2]
  refine wpo_call ?_
  simp only [↓stU, stD, reduceEqDiff, ↓reduceIte, Nat.reduceAdd]
  refine wpf_mono (own_spec H (IsSlG.same (E := NodeE) firm_node hn sS2) (IsSlG.same (E := InfoE) firm_info hi sS2) hT hln) ?_
  rintro _ S3 ⟨s3, mv, jv, rfl, hm, hj⟩
  try simp only [↓stU, stD, reduceEqDiff, ↓reduceIte, Nat.reduceAdd]
  refine wpo_al evA_none ?_
  intro S4 s4 n4 g4
  try simp only [↓stU, stD, reduceEqDiff, ↓reduceIte, Nat.reduceAdd]
  have sS4 := (sS2.trans s3).trans s4
  obtain ⟨dv, S5, e5, i5, s5, _⟩ := app_cp (bytes := 8) (E := Int1) (l := l) firm_int1 Nat.one_pos g4 (by omega) (toG (hc.same sS4)) (by unfold room; omega) (by unfold room; omega)
  refine wpo_x (fun call => by simp only [↓stU, stD, reduceEqDiff, ↓reduceIte, Nat.reduceAdd, evX_app]; exact e5) ?_
  try simp only [↓stU, stD, reduceEqDiff, ↓reduceIte, Nat.reduceAdd]
  refine wpo_alloc ?_
  intro S6 s6 n6 g6
  refine wpo_st (b := S5.nx) (by simp only [↓stU, stD, reduceEqDiff, ↓reduceIte, Nat.reduceAdd]) (by simp only [↓stU, stD, reduceEqDiff, ↓reduceIte, Nat.reduceAdd]; exact cells_agg _) g6 rfl rfl ?_
  intro S7 s7 n7 g7
  simp only [↓stU, stD, reduceEqDiff, ↓reduceIte, Nat.reduceAdd]
  have s57 : Same S5 S7 := s7.same s6 (Nat.le_refl _)
  have sS7 := (sS4.trans s5).trans s57
  have s37 := (s4.trans s5).trans s57
  have hd := (ofG i5).same s57
  have gg7 : S7.h.get S.nx = _ := (s57.2 _ (by have := s3.1; have := s5.1; omega)).trans ((s5.2 _ (by have := s3.1; omega)).trans ((s4.2 _ (by have := s3.1; omega)).trans ((s3.2 _ l2).trans c2)))
  have lb7 : S5.nx < S7.nx := by omega
  have lg7 : S.nx < S7.nx := by have := s3.1; have := s5.1; omega
  have mn := fun {X} (h : Same S3 X) => IsSlG.same (E := NodeE) firm_node hm h
  have mi := fun {X} (h : Same S3 X) => IsSlG.same (E := InfoE) firm_info hj h
  have gn := fun {X} (h : Same S X) => IsSlG.same (E := NodeE) firm_node hn h
  have gi := fun {X} (h : Same S X) => IsSlG.same (E := InfoE) firm_info hi h
  refine wsr ?_
  simp only [↓stU, stD, reduceEqDiff, ↓reduceIte, ↓stV, stW, Nat.reduceAdd, lg3_a g7]
  refine wpo_call ?_
  simp only [↓stU, stD, reduceEqDiff, ↓reduceIte, ↓stV, stW, Nat.reduceAdd]
  refine wpf_mono (path_spec (pr := pr) H (mn s37) (mi s37) hd hln (by omega) hs hpr) ?_
  intro r1 T1 h1
  obtain ⟨t1, x1, rfl, i1⟩ := h1.i H hd
  simp only [↓stU, stD, reduceEqDiff, ↓reduceIte, ↓stV, stW, Nat.reduceAdd, ex0, ex1]
  have g8 := (t1.2 _ lb7).trans g7
  have gg8 := (t1.2 _ lg7).trans gg7
  refine wsr ?_
  simp only [↓stU, stD, reduceEqDiff, ↓reduceIte, ↓stV, stW, Nat.reduceAdd, lg3_a gg8]
  refine wpo_call ?_
  simp only [↓stU, stD, reduceEqDiff, ↓reduceIte, ↓stV, stW, Nat.reduceAdd]
  refine wpf_mono (xpath_spec (pr := pr) H (gn (sS7.trans t1)) (gi (sS7.trans t1)) (hc.same (sS7.trans t1)) hln (by omega) hs hpr) ?_
  intro r2 T2 h2
  obtain ⟨t2, x2, rfl, i2⟩ := h2.i H (hc.same (sS7.trans t1))
  simp only [↓stU, stD, reduceEqDiff, ↓reduceIte, ↓stV, stW, Nat.reduceAdd, ex0, ex1]
  have t12 := t1.trans t2
  have g9 := (t12.2 _ lb7).trans g7
  have gg9 := (t12.2 _ lg7).trans gg7
  refine wsr ?_
  simp only [↓stU, stD, reduceEqDiff, ↓reduceIte, ↓stV, stW, Nat.reduceAdd, lg3_a g9]
  refine wpo_call ?_
  simp only [↓stU, stD, reduceEqDiff, ↓reduceIte, ↓stV, stW, Nat.reduceAdd]
  refine wpf_mono (pay_spec (pr := pr) H (mn (s37.trans t12)) (mi (s37.trans t12)) (hd.same t12) hln (by omega) hs hpr) ?_
  intro r3 T3 h3
  obtain ⟨t3, x3, rfl, i3⟩ := h3.i
  simp only [↓stU, stD, reduceEqDiff, ↓reduceIte, ↓stV, stW, Nat.reduceAdd, ex0, ex1]
  have t13 := t12.trans t3
  have gg10 := (t13.2 _ lg7).trans gg7
  refine wsr ?_
  simp only [↓stU, stD, reduceEqDiff, ↓reduceIte, ↓stV, stW, Nat.reduceAdd, lg3_a gg10]
  refine wpo_call ?_
  simp only [↓stU, stD, reduceEqDiff, ↓reduceIte, ↓stV, stW, Nat.reduceAdd]
  refine wpf_mono (xpay_spec (pr := pr) H (gn (sS7.trans t13)) (gi (sS7.trans t13)) (hc.same (sS7.trans t13)) hln (by omega) hs hpr) ?_
  intro r4 T4 h4
  obtain ⟨t4, x4, rfl, i4⟩ := h4.i
  simp only [↓stU, stD, reduceEqDiff, ↓reduceIte, ↓stV, stW, Nat.reduceAdd, ex0, ex1]
  have t14 := t13.trans t4
  obtain ⟨b1, b2⟩ := path_lens (pr := pr) (s := s) H hc
  refine wsr ?_
  simp only [↓stU, stD, reduceEqDiff, ↓reduceIte, ↓stV, stW, Nat.reduceAdd]
  refine wpo_call ?_
  simp only [↓stU, stD, reduceEqDiff, ↓reduceIte, ↓stV, stW, Nat.reduceAdd]
  refine wpf_mono (alikeI_spec H (i1.same ((t2.trans t3).trans t4)) (i2.same (t3.trans t4)) b1) ?_
  rintro _ T5 ⟨rfl, t5⟩
  rw [decide_eq_true rfl]
  have t15 := t14.trans t5
  simp only [↓stU, stD, reduceEqDiff, ↓reduceIte, ↓stV, stW, Nat.reduceAdd, decide_true]
  refine wpo_call ?_
  simp only [↓stU, stD, reduceEqDiff, ↓reduceIte, ↓stV, stW, Nat.reduceAdd]
  refine wpf_mono (alikeI_spec H (i3.same (t4.trans t5)) (i4.same t5) b2) ?_
  rintro _ T6 ⟨rfl, t6⟩
  rw [decide_eq_true rfl]
  have t16 := t15.trans t6
  have g12 := (t16.2 _ lb7).trans g7
  have gg12 := (t16.2 _ lg7).trans gg7
  simp only [↓stU, stD, reduceEqDiff, ↓reduceIte, ↓stV, stW, Nat.reduceAdd, decide_true, lg3_a g12, lg3_a gg12]
  refine wpo_call ?_
  simp only [↓stU, stD, reduceEqDiff, ↓reduceIte, ↓stV, stW, Nat.reduceAdd]
  refine wpf_mono (alikeGame_spec H (mn (s37.trans t16)) (mi (s37.trans t16)) (gn (sS7.trans t16)) (gi (sS7.trans t16)) hT hln) ?_
  rintro _ T7 ⟨rfl, t7⟩
  have t17 := t16.trans t7
  try simp only [↓stU, stD, reduceEqDiff, ↓reduceIte, ↓stV, stW, Nat.reduceAdd]
  refine wpo_call ?_
  simp only [↓stU, stD, reduceEqDiff, ↓reduceIte, ↓stV, stW, Nat.reduceAdd]
  refine wpf_mono (alikeI_spec H (hd.same t17) (hc.same (sS7.trans t17)) (by omega)) ?_
  rintro _ T8 ⟨rfl, t8⟩
  rw [decide_eq_true rfl]
  try simp only [↓stU, stD, reduceEqDiff, ↓reduceIte, ↓stV, stW, Nat.reduceAdd]
  refine wpo_call ?_
  simp only [↓stU, stD, reduceEqDiff, ↓reduceIte, ↓stV, stW, Nat.reduceAdd]
  refine wpf_mono (hAw _) ?_
  rintro _ T9 ⟨rfl, t9⟩
  try simp only [↓stU, stD, reduceEqDiff, ↓reduceIte, ↓stV, stW, Nat.reduceAdd]
  refine wpc_ret ?_
  try simp only [↓stU, stD, reduceEqDiff, ↓reduceIte, ↓stV, stW, Nat.reduceAdd]
  exact ((sS7.trans t17).trans t8).trans t9
end Go.Ev.Gl
