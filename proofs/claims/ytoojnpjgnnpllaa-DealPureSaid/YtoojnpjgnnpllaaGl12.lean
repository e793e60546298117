/- Contracts (12): rational numbers, the statements' tools, the law. -/
import Derived.Test.YtoojnpjgnnpllaaGl11
open Nat (reduceEqDiff reduceAdd)
set_option maxHeartbeats 4000000
set_option linter.unusedSimpArgs false
set_option linter.unusedVariables false
namespace Go.Ev.Gl
variable {fns : T AFn}

/-! ## Choices that fit a game, of both sides -/
def okC (g : PGame) (l : List Int) (i : Nat) : Prop := 0 ≤ l.getD i 0 ∧ l.getD i 0 < (infoAt g (i : Int)).actions
instance okCDec (g : PGame) (l : List Int) (i : Nat) : Decidable (okC g l i) := by unfold okC; exact inferInstance
def chsE (g : PGame) (l : List Int) : Int := if l.length ≠ g.infos.length then 10 else if ∀ i, i < l.length → okC g l i then 0 else 2
noncomputable def chsN (g : PGame) (l : List Int) (pr : Nat → Nat) : Int := if formE g ≠ 0 then 0 else if chsE g l ≠ 0 then 0 else sizeN g pr
noncomputable def chsR (g : PGame) (l : List Int) (pr : Nat → Nat) : Int := if formE g ≠ 0 then formE g else if chsE g l ≠ 0 then chsE g l else sizeR g pr
theorem chs_bad {g : PGame} {l : List Int} {pr : Nat → Nat} {e : Int} (h0 : formE g = 0) (h : chsE g l = e) (he : e ≠ 0) : chsN g l pr = 0 ∧ chsR g l pr = e := by
  subst h
  unfold chsN chsR
  simp only [h0, he, ne_eq, not_true_eq_false, not_false_eq_true, if_false, if_true, and_self]
theorem chs_ok {g : PGame} {l : List Int} {pr : Nat → Nat} (h0 : formE g = 0) (h : chsE g l = 0) : chsN g l pr = sizeN g pr ∧ chsR g l pr = sizeR g pr := by
  unfold chsN chsR
  simp only [h0, h, ne_eq, not_true_eq_false, if_false, and_self]
theorem infoAt_some {g : PGame} {i : Nat} (hi : i < g.infos.length) : g.infos[i]? = some (infoAt g (i : Int)) := by
  unfold infoAt
  rw [Int.toNat_natCast, List.getD_eq_getElem?_getD, List.getElem?_eq_getElem hi]
  rfl
theorem chsE_len {g : PGame} {l : List Int} (h : l.length ≠ g.infos.length) : chsE g l = 10 := by unfold chsE; rw [if_pos h]
theorem chsE_ok {g : PGame} {l : List Int} (h : l.length = g.infos.length) (ha : ∀ i, i < l.length → okC g l i) : chsE g l = 0 := by unfold chsE; rw [if_neg (fun h' => h' h), if_pos ha]
theorem chsE_bad {g : PGame} {l : List Int} {i : Nat} (h : l.length = g.infos.length) (hi : i < l.length) (ha : ¬ okC g l i) : chsE g l = 2 := by unfold chsE; rw [if_neg (fun h' => h' h), if_neg (fun h' => ha (h' i hi))]
def ChI (S : St) (gb : Nat) (cg : Option AB) (v : AV) (g : PGame) (l : List Int) (k : Nat) (A : Act') (X : St) : Prop := A.inr = false ∧ Same S X ∧ gb < X.nx ∧ X.h.get gb = cg ∧ ∃ i, i + k = l.length ∧ (∀ j, j < i → okC g l j) ∧ tmpV 2 A.F = .ptr gb 0 ∧ tmpV 20 A.F = v ∧ tmpV 21 A.F = .int .i64 ((l.length : Nat) : Int) ∧ tmpV 22 A.F = .int .i64 (i : Int)
theorem ok_next {g : PGame} {l : List Int} {i : Nat} (h : ∀ j, j < i → okC g l j) (hi : okC g l i) : ∀ j, j < i + 1 → okC g l j := fun j hj => by
  by_cases e : j = i
  · subst e; exact hi
  · exact h j (by omega)
set_option maxHeartbeats 4000000 in
theorem chosen_spec {S : St} {nv iv cv : AV} {g : PGame} {l : List Int} {pr : Nat → Nat} (H : Has fns) (hn : IsSlG 6 NodeE S nv g.nodes) (hi : IsSlG 2 InfoE S iv g.infos) (hc : IsSl .i64 S cv l) (hln : g.nodes.length ≤ 100000) (hll : l.length ≤ 10000000) (hpr : formE g = 0 → Prods g pr) :
    wpf fns (.fn 89 [] []) [.agg [.int .i64 g.players, nv, iv], cv] S fun r S' => Same S S' ∧ r = .tup [.int .i64 (chsN g l pr), .int .i64 (chsR g l pr)] := by
  refine wpf_fn H.f89 (by simp) ?_
  simp only [↓sU, sD, reduceEqDiff, ↓reduceIte, reduceAdd]
  refine wsr ?_
  refine wpo_box (cs := [.int .i64 g.players, nv, iv]) rfl ?_
  intro S1 s1 n1 c1
  simp only [↓sU, sD, reduceEqDiff, ↓reduceIte, reduceAdd]
  refine wss ?_
  simp only [↓sU, sD, reduceEqDiff, ↓reduceIte, reduceAdd, lg3_a c1]
  refine wpo_call ?_
  simp only [↓sU, sD, reduceEqDiff, ↓reduceIte, reduceAdd]
  refine wpf_mono (form_spec H (IsSlG.same (E := NodeE) firm_node hn s1) (IsSlG.same (E := InfoE) firm_info hi s1) hln) ?_
  rintro _ X ⟨rfl, hX⟩
  have sX := s1.trans hX
  have lgX : S.nx < X.nx := Nat.lt_of_lt_of_le (show S.nx < S1.nx by omega) hX.1
  have cX := (hX.2 _ (show S.nx < S1.nx by omega)).trans c1
  try simp only [↓sU, sD, reduceEqDiff, ↓reduceIte, reduceAdd]
  refine wsr ?_
  simp only [↓sU, sD, reduceEqDiff, ↓reduceIte, reduceAdd]
  by_cases h0 : formE g = 0
  rotate_left
  · unfold chsN chsR
    rw [if_pos h0, if_pos h0]
    refine wpc_yes (by simp only [↓sU, sD, reduceEqDiff, ↓reduceIte, reduceAdd, decide_eq_true (show formE g ≠ 0 from h0)]) ?_
    refine wsr ?_
    simp only [↓sU, sD, reduceEqDiff, ↓reduceIte, reduceAdd]
    refine wpc_ret ?_
    simp only [↓sU, sD, reduceEqDiff, ↓reduceIte, reduceAdd]
    exact sX
  refine wpc_non (by simp only [↓sU, sD, reduceEqDiff, ↓reduceIte, reduceAdd, decide_eq_false (show ¬ formE g ≠ 0 from fun h => h h0)]) (wpc_skip ?_)
  try simp only [↓sU, sD, reduceEqDiff, ↓reduceIte, reduceAdd]
  have hcl := hc.len
  have hil := hi.len
  refine wss ?_
  simp only [↓sU, sD, reduceEqDiff, ↓reduceIte, reduceAdd, evQ_faddr, faddr_ptr, lg3_2 cX, hcl, hil]
  by_cases hlen : l.length = g.infos.length
  rotate_left
  · have hE := chsE_len hlen
    obtain ⟨r1, r2⟩ := chs_bad (pr := pr) h0 hE (by omega)
    rw [r1, r2]
    refine wpc_yes (by simp only [↓sU, sD, reduceEqDiff, ↓reduceIte, reduceAdd, Int.ofNat_eq_natCast, decide_eq_true (show ((l.length : Nat) : Int) ≠ ((g.infos.length : Nat) : Int) by omega)]) ?_
    refine wsr ?_
    simp only [↓sU, sD, reduceEqDiff, ↓reduceIte, reduceAdd]
    refine wpc_ret ?_
    simp only [↓sU, sD, reduceEqDiff, ↓reduceIte, reduceAdd]
    exact sX
  refine wpc_non (by simp only [↓sU, sD, reduceEqDiff, ↓reduceIte, reduceAdd, Int.ofNat_eq_natCast, decide_eq_false (show ¬ ((l.length : Nat) : Int) ≠ ((g.infos.length : Nat) : Int) by omega)]) (wpc_skip ?_)
  try simp only [↓sU, sD, reduceEqDiff, ↓reduceIte, reduceAdd]
  refine wpc_seq (wpc_mono (Q := fun o A' Z => (o = .normal ∧ ChI S S.nx (some (.cells [.int .i64 g.players, nv, iv] false 0)) cv g l 0 A' Z) ∨ (o = .ret ∧ Same S Z ∧ chsE g l = 2 ∧ tmpV 4 A'.F = .int .i64 0 ∧ tmpV 5 A'.F = .int .i64 2)) (wpc_seq (wpc_reg ?_)) ?_)
  · simp only [↓sU, sD, reduceEqDiff, ↓reduceIte, reduceAdd, hcl, Int.ofNat_eq_natCast]
    refine wpc_block (wpc_loop (ChI S S.nx (some (.cells [.int .i64 g.players, nv, iv] false 0)) cv g l) ?_ l.length _ _ ⟨rfl, sX, lgX, cX, 0, by omega, fun j hj => by omega, by simp only [↓sU, sD, reduceEqDiff, ↓reduceIte, reduceAdd], by simp only [↓sU, sD, reduceEqDiff, ↓reduceIte, reduceAdd], by simp only [↓sU, sD, reduceEqDiff, ↓reduceIte, reduceAdd], by simp only [↓sU, sD, reduceEqDiff, ↓reduceIte, reduceAdd]⟩)
    rintro k ⟨F, inr⟩ V ⟨q0, hV, lgV, cV, i, hik, hok, p2, p20, p21, p22⟩
    simp only at q0 p2 p20 p21 p22
    subst q0
    refine wsr ?_
    simp only [↓sU, sD, reduceEqDiff, ↓reduceIte, reduceAdd, p21, p22]
    by_cases hlt : i < l.length
    rotate_left
    · refine wpc_seq (wpc_non (by simp only [↓sU, sD, reduceEqDiff, ↓reduceIte, reduceAdd, decide_eq_false (show ¬ (i : Int) < ((l.length : Nat) : Int) by omega)]) (wpc_exit ?_))
      simp only [↓sU, sD, reduceEqDiff, ↓reduceIte, reduceAdd]
      have hk0 : k = 0 := by omega
      subst hk0
      exact .inl ⟨rfl, hV, lgV, cV, i, hik, hok, by simp only [↓sU, sD, reduceEqDiff, ↓reduceIte, reduceAdd, p2], by simp only [↓sU, sD, reduceEqDiff, ↓reduceIte, reduceAdd, p20], by simp only [↓sU, sD, reduceEqDiff, ↓reduceIte, reduceAdd, p21], by simp only [↓sU, sD, reduceEqDiff, ↓reduceIte, reduceAdd, p22]⟩
    refine wpc_seq (wpc_yes (by simp only [↓sU, sD, reduceEqDiff, ↓reduceIte, reduceAdd, decide_eq_true (show (i : Int) < ((l.length : Nat) : Int) by omega)]) (wpc_skip ?_))
    try simp only [↓sU, sD, reduceEqDiff, ↓reduceIte, reduceAdd]
    have hcV := hc.same hV
    have ia := hcV.iaddr hlt
    have la := hcV.ld hlt
    obtain ⟨ei, bi, qi, hii, hbi, _, hei, _, hfi⟩ := IsSlG.at (IsSlG.same (E := InfoE) firm_info hi hV) (by decide) (infoAt_some (show i < g.infos.length by omega))
    have hei : ei = [.int .i64 (infoAt g (i : Int)).player, .int .i64 (infoAt g (i : Int)).actions] := hei
    subst hei
    have l1 := hfi 1 _ rfl
    have w0 : IntKind.i64.wrap ((i : Int) + 1) = ((i + 1 : Nat) : Int) := by rw [wrap_i64 (by omega) (by omega)]; omega
    refine wpc_seq (wpc_block (wpc_seq (wpc_reg ?_)))
    simp only [↓sU, sD, reduceEqDiff, ↓reduceIte, reduceAdd, p20, p22, natOf_cast, ia, la]
    refine wsr ?_
    by_cases hneg : l.getD i 0 < 0
    · simp only [↓sU, sD, reduceEqDiff, ↓reduceIte, reduceAdd, decide_eq_true hneg]
      refine wpc_yes (by try simp only [↓sU, sD, reduceEqDiff, ↓reduceIte, reduceAdd]) ?_
      refine wsr ?_
      simp only [↓sU, sD, reduceEqDiff, ↓reduceIte, reduceAdd]
      refine wpc_ret ?_
      simp only [↓sU, sD, reduceEqDiff, ↓reduceIte, reduceAdd]
      exact .inr ⟨hV, chsE_bad hlen hlt (fun h => by have := h.1; omega)⟩
    simp only [↓sU, sD, reduceEqDiff, ↓reduceIte, reduceAdd, p2, decide_eq_false hneg, evQ_faddr, faddr_ptr, lg3_2 cV, natOf_cast, hii, l1]
    by_cases hge : (infoAt g (i : Int)).actions ≤ l.getD i 0
    · refine wpc_yes (by simp only [↓sU, sD, reduceEqDiff, ↓reduceIte, reduceAdd, decide_eq_true hge]) ?_
      refine wsr ?_
      simp only [↓sU, sD, reduceEqDiff, ↓reduceIte, reduceAdd]
      refine wpc_ret ?_
      simp only [↓sU, sD, reduceEqDiff, ↓reduceIte, reduceAdd]
      exact .inr ⟨hV, chsE_bad hlen hlt (fun h => by have := h.2; omega)⟩
    refine wpc_non (by simp only [↓sU, sD, reduceEqDiff, ↓reduceIte, reduceAdd, decide_eq_false hge]) (wpc_skip ?_)
    try simp only [↓sU, sD, reduceEqDiff, ↓reduceIte, reduceAdd]
    refine wpc_reg ?_
    simp only [↓sU, sD, reduceEqDiff, ↓reduceIte, reduceAdd, p22, w0]
    exact ⟨k - 1, by omega, rfl, hV, lgV, cV, i + 1, by omega, ok_next hok ⟨by omega, by omega⟩, by simp only [↓sU, sD, reduceEqDiff, ↓reduceIte, reduceAdd, p2], by simp only [↓sU, sD, reduceEqDiff, ↓reduceIte, reduceAdd, p20], by simp only [↓sU, sD, reduceEqDiff, ↓reduceIte, reduceAdd, p21], by simp only [↓sU, sD, reduceEqDiff, ↓reduceIte, reduceAdd]⟩
  rintro o ⟨F, inr⟩ Z (⟨rfl, q0, hZ, lgZ, cZ, i, hik, hok, p2, _⟩ | ⟨rfl, hZ, hE, p4, p5⟩)
  rotate_left
  · simp only at p4 p5
    simp only [↓sU, sD, reduceEqDiff, ↓reduceIte, reduceAdd, p4, p5]
    obtain ⟨r1, r2⟩ := chs_bad (pr := pr) h0 hE (by omega)
    rw [r1, r2]
    exact ⟨hZ, rfl⟩
  simp only at q0 p2
  subst q0
  obtain rfl : i = l.length := by omega
  have hE := chsE_ok hlen hok
  obtain ⟨r1, r2⟩ := chs_ok (pr := pr) h0 hE
  rw [r1, r2]
  try simp only [↓sU, sD, reduceEqDiff, ↓reduceIte, reduceAdd]
  refine wsr ?_
  simp only [↓sU, sD, reduceEqDiff, ↓reduceIte, reduceAdd, p2, lg3_a cZ]
  refine wpo_call ?_
  simp only [↓sU, sD, reduceEqDiff, ↓reduceIte, reduceAdd]
  refine wpf_mono (size_spec (pr := pr) H (IsSlG.same (E := NodeE) firm_node hn hZ) (IsSlG.same (E := InfoE) firm_info hi hZ) hln hpr) ?_
  rintro _ W ⟨hW, rfl⟩
  rw [if_pos h0]
  simp only [↓sU, sD, reduceEqDiff, ↓reduceIte, reduceAdd, ex0, ex1]
  refine wpc_ret ?_
  simp only [↓sU, sD, reduceEqDiff, ↓reduceIte, reduceAdd]
  exact hZ.trans hW
end Go.Ev.Gl

namespace Go.Ev.Gl
variable {fns : T AFn}

/-! ## A play of chosen actions, of both sides -/
theorem mkF {t s : Nat} {v : AV} {F : Fr} {h : Ev.T AB} (e : tmpV s F = v) : evQ (.mkIface t (.t s)) F h = some (.iface t v) := by show some (AV.iface _ (tmpV s F)) = _; rw [e]
end Go.Ev.Gl

namespace Go.Ev.Gl
variable {fns : T AFn}

/-! ## The reference's play -/
theorem pathL_chance {g : PGame} {D : Dec} {k i s : Nat} (h : (nodeAt g i).kind = 1) : pathL g D (k + 1) i s = (i : Int) :: pathL g D k ((nodeAt g i).next.getD (pickN (nodeAt g i).weights ((s % (nodeAt g i).weights.sum.toNat : Nat) : Int)) 0).toNat (s / (nodeAt g i).weights.sum.toNat) := by
  simp only [pathL]
  rw [if_neg (by omega)]
  unfold decAt
  rw [if_pos h]
  rfl
end Go.Ev.Gl

namespace Go.Ev.Gl
variable {fns : T AFn}

/-! ## A list behind an empty one: a copy of one's own -/
def Int1 (_ : St) (cs : List AV) (x : Int) : Prop := cs = [.int .i64 x]
theorem toG {S : St} {v : AV} {l : List Int} (h : IsSl .i64 S v l) : IsSlG 1 Int1 S v l := by
  rcases h with h | ⟨b, off, cap, o, cs, rfl, hc, hb, hcs, hel⟩
  · exact .inl h
  · refine .inr ⟨b, off, cap, o, cs, rfl, hc, hb, hcs, fun i a hi => ⟨[.int .i64 a], rfl, fun j x hj => ?_, rfl⟩⟩
    cases j with
    | zero => simp at hj; subst hj; rw [Nat.mul_one, Nat.add_zero]; exact hel i a hi
    | succ j => simp at hj
theorem ofG {S : St} {v : AV} {l : List Int} (h : IsSlG 1 Int1 S v l) : IsSl .i64 S v l := by
  rcases h with h | ⟨b, off, cap, o, cs, rfl, hc, hb, hcs, hel⟩
  · exact .inl h
  · refine .inr ⟨b, off, cap, o, cs, rfl, hc, hb, hcs, fun i a hi => ?_⟩
    obtain ⟨e, _, h2, h3⟩ := hel i a hi
    have h3 : e = [.int .i64 a] := h3
    subst h3
    have := h2 0 _ rfl
    rw [Nat.mul_one, Nat.add_zero] at this
    exact this
theorem IsSlG.moveB {k : Nat} {α : Type} {E : St → List AV → α → Prop} {S S' : St} {v : AV} {l : List α} (h : IsSlG k E S v l) (hn : S.nx ≤ S'.nx) (hh : ∀ c, blkOf v = some c → S'.h.get c = S.h.get c) (hE : ∀ e a, E S e a → E S' e a) : IsSlG k E S' v l := by
  rcases h with h | ⟨b, off, cap, o, cs, rfl, hc, hb, hcs, hel⟩
  · exact .inl h
  · refine .inr ⟨b, off, cap, o, cs, rfl, hc, Nat.lt_of_lt_of_le hb hn, ?_, fun i a hi => ?_⟩
    · unfold cellsAt
      rw [hh b rfl]
      exact hcs
    · obtain ⟨e, e1, e2, e3⟩ := hel i a hi
      exact ⟨e, e1, e2, hE e a e3⟩
end Go.Ev.Gl

namespace Go.Ev.Gl
variable {fns : T AFn}

/-! ## The pay of a play, of both sides -/
theorem path_all {S : St} {g : PGame} {D : Dec} (H : Has fns) (G : GoodK g) (hD : ∀ i, i < g.nodes.length → (nodeAt g i).kind = 2 → DecH fns S D (nodeAt g i)) : ∀ {k i s : Nat}, i < g.nodes.length → g.nodes.length ≤ k + i → 1 ≤ (pathL g D k i s).length ∧ (pathL g D k i s).length ≤ k ∧ (∀ j, j < (pathL g D k i s).length → 0 ≤ (pathL g D k i s).getD j 0 ∧ (pathL g D k i s).getD j 0 < g.nodes.length) ∧ (nodeAt g ((pathL g D k i s).getD ((pathL g D k i s).length - 1) 0).toNat).kind = 3
  | 0, i, s, hi, hk => by omega
  | k + 1, i, s, hi, hk => by
    simp only [pathL]
    split
    · rename_i hk3
      refine ⟨by simp, by simp, fun j hj => ?_, by simpa using hk3⟩
      have : j = 0 := by simpa using hj
      subst this
      simp only [List.getD_cons_zero]
      omega
    · rename_i hk3
      have hDA : DecH fns S (decAt D (nodeAt g i)) (nodeAt g i) := by
        unfold decAt
        split
        · rename_i h; exact decC_h H G hi h
        · rename_i h
          rcases G.knd i hi with h4 | h4 | h4
          · exact absurd h4 h
          · exact hD i hi h4
          · exact absurd h4 hk3
      obtain ⟨b1, b2⟩ := G.good.kids i hi _ (hDA.lt _ (Nat.mod_lt s hDA.pos))
      generalize (nodeAt g i).next.getD ((decAt D (nodeAt g i)).chs (nodeAt g i) (s % (decAt D (nodeAt g i)).rad (nodeAt g i))) 0 = c at *
      obtain ⟨c1, c2, c3, c4⟩ := path_all (s := s / (decAt D (nodeAt g i)).rad (nodeAt g i)) H G hD (k := k) (i := c.toNat) (by omega) (by omega)
      refine ⟨by simp, by simp only [List.length_cons]; omega, fun j hj => ?_, ?_⟩
      rotate_left
      · rw [List.length_cons, Nat.add_sub_cancel]
        generalize pathL g D k c.toNat _ = L at *
        obtain ⟨n, hn⟩ : ∃ n, L.length = n + 1 := ⟨L.length - 1, by omega⟩
        rw [hn, List.getD_cons_succ]
        rw [hn, Nat.add_sub_cancel] at c4
        exact c4
      cases j with
      | zero => simp only [List.getD_cons_zero]; omega
      | succ j => simp only [List.getD_cons_succ]; exact c3 j (by simpa using hj)
end Go.Ev.Gl

namespace Go.Ev.Gl
variable {fns : T AFn}

/-! ## The reference's pay -/
end Go.Ev.Gl

namespace Go.Ev.Gl
variable {fns : T AFn}

/-! ## Games that are alike (the same content) -/
end Go.Ev.Gl

namespace Go.Ev.Gl
variable {fns : T AFn}

/-! ## Drawn regions: plain loads, appends and calls first, stores behind them all -/
theorem wpd_app {base : Nat} {suf : List AO} {Q : DS → Prop} : ∀ {pre : List AO} {i : Nat} {D : DS}, wpd fns pre i base D (fun D' => wpd fns suf (i + pre.length) base D' Q) → wpd fns (pre ++ suf) i base D Q := by
  intro pre i D h
  obtain ⟨n, D1, h1, k, D2, h2, h3⟩ := h
  refine ⟨max n k, D2, ?_, h3⟩
  have h1' := evDs_mono (ev_mono fns (Nat.le_max_left n k)).call h1
  have h2' := evDs_mono (ev_mono fns (Nat.le_max_right n k)).call h2
  clear h1 h2
  induction pre generalizing i D with
  | nil => cases h1'; exact h2'
  | cons o os ih =>
    show osel (evD o i base (ev fns (max n k)).call D) _ = _
    have h1'' : osel (evD o i base (ev fns (max n k)).call D) (fun D' => evDs os (i + 1) base (ev fns (max n k)).call D') = some D1 := h1'
    cases he : evD o i base (ev fns (max n k)).call D with
    | none => rw [he] at h1''; cases h1''
    | some D' =>
      rw [he, osel_some] at h1''
      rw [osel_some]
      exact ih h1'' (by rw [List.length_cons] at h2'; rw [show i + 1 + os.length = i + (os.length + 1) by omega]; exact h2')
/-- where the region's effects and loads stand -/
def Low (K : Nat) (D : DS) : Prop := (∀ e ∈ D.hs, e.1 < K) ∧ ∀ l ∈ D.ls, l.i < K ∧ l.mask < 2 ^ K
theorem evD_low {call : CallF} {o : AO} {i base K : Nat} {D D' : DS} (h : evD o i base call D = some D') (hi : i < K) (hm : o.mask < 2 ^ K) (hD : Low K D) : Low K D' := by
  unfold evD at h
  cases hw : wants o.grd D.F with
  | false => rw [hw, bsel_false] at h; cases h; exact hD
  | true =>
    rw [hw, bsel_true] at h
    obtain ⟨d, op, g, m⟩ := o
    cases op with
    | q q =>
      have h : osel (evQ q D.F D.S.h) (fun v => some (⟨putF d D.F v, D.S, D.ps, D.hs, bsel (isLoad q) (⟨q, D.F, v, i, m⟩ :: D.ls) D.ls⟩ : DS)) = some D' := h
      cases he : evQ q D.F D.S.h with
      | none => rw [he] at h; cases h
      | some v =>
        rw [he, osel_some] at h
        cases h
        refine ⟨hD.1, fun l hl => ?_⟩
        simp only at hl
        cases hq : isLoad q with
        | false => rw [hq, bsel_false] at hl; exact hD.2 l hl
        | true =>
          rw [hq, bsel_true] at hl
          rcases List.mem_cons.1 hl with rfl | hl
          · exact ⟨hi, hm⟩
          · exact hD.2 l hl
    | a a =>
      have h : osel (evA a D.F (base + i)) (fun r => some (⟨putF d D.F r.1, D.S, ⟨i, base + i, r.2⟩ :: D.ps, D.hs, D.ls⟩ : DS)) = some D' := h
      cases he : evA a D.F (base + i) with
      | none => rw [he] at h; cases h
      | some v => rw [he, osel_some] at h; cases h; exact hD
    | x x =>
      have h : bsel (lastOk D.hs m) (osel (evX x call D.F ⟨(flush m D.ps D.S.h).2, D.S.nx⟩) fun r => some (⟨putF d D.F r.1, r.2, (flush m D.ps D.S.h).1, (i, m, r.2.h) :: D.hs, D.ls⟩ : DS)) none = some D' := h
      cases hl : lastOk D.hs m with
      | false => rw [hl, bsel_false] at h; cases h
      | true =>
        rw [hl, bsel_true] at h
        cases he : evX x call D.F ⟨(flush m D.ps D.S.h).2, D.S.nx⟩ with
        | none => rw [he] at h; cases h
        | some v =>
          rw [he, osel_some] at h
          cases h
          refine ⟨fun e he => ?_, hD.2⟩
          rcases List.mem_cons.1 he with rfl | he
          · exact hi
          · exact hD.1 e he
theorem evDs_low {call : CallF} {base K : Nat} : ∀ {l : List AO} {i : Nat} {D D' : DS}, evDs l i base call D = some D' → i + l.length ≤ K → (∀ o ∈ l, o.mask < 2 ^ K) → Low K D → Low K D'
  | [], i, D, D', h, _, _, hD => by cases h; exact hD
  | o :: os, i, D, D', h, hi, hm, hD => by
    have h : osel (evD o i base call D) (fun D' => evDs os (i + 1) base call D') = some D' := h
    rw [List.length_cons] at hi
    cases he : evD o i base call D with
    | none => rw [he] at h; cases h
    | some D1 =>
      rw [he, osel_some] at h
      exact evDs_low h (by omega) (fun o ho => hm o (List.mem_cons_of_mem _ ho)) (evD_low he (by omega) (hm o (List.mem_cons_self ..)) hD)
theorem loadGo_low {W : Nat → Prop} {h0 : T AB} {base K m : Nat} {h' : T AB} {r : List (Nat × Nat × T AB)} {l : Loaded} (h : sameV l.v l.v = true ∧ OldL W base l.q l.F ∧ evQ l.q l.F h0 = some l.v) (hl : l.i < K ∧ l.mask < 2 ^ K) (hm : ∀ i, i < K → Nat.testBit m i = true) : ∀ {hs : List (Nat × Nat × T AB)} {h1 : T AB}, (∀ e ∈ hs, ∀ b, b < base → ¬ W b → e.2.2.get b = h0.get b) → (∀ b, b < base → ¬ W b → h1.get b = h0.get b) → loadGo l (hs ++ (K, m, h') :: r) h1 = true
  | [], h1, _, hh => by
    have e1 : sameO l.v (evQ l.q l.F h1) = true := by rw [h.2.1.ev hh, h.2.2]; exact h.1
    have e2 : Nat.testBit l.mask K = false := Nat.testBit_lt_two_pow hl.2
    show loadGo l ((K, m, h') :: r) h1 = true
    unfold loadGo
    rw [e2, bsel_false, e1, bsel_true, hm _ hl.1, bsel_true]
  | (i, mm, h2) :: rr, h1, hs, hh => by
    have e1 : sameO l.v (evQ l.q l.F h1) = true := by rw [h.2.1.ev hh, h.2.2]; exact h.1
    have e2 : loadGo l (rr ++ (K, m, h') :: r) h2 = true := loadGo_low h hl hm (fun e he => hs e (by simp [he])) (hs (i, mm, h2) (by simp))
    show loadGo l ((i, mm, h2) :: (rr ++ (K, m, h') :: r)) h1 = true
    unfold loadGo
    rw [e1, e2]
    cases Nat.testBit l.mask i <;> cases Nat.testBit mm l.i <;> rfl
theorem wpc_pre {W : Nat → Prop} {ops pre suf : List AO} {K : Nat} {A : Act'} {S : St} {Q : Out → Act' → St → Prop} {R : Fr → St → List Pend → Prop} (he : ops = pre ++ suf) (hK : pre.length = K) (hm : (pre.all fun o => decide (o.mask < 2 ^ K)) = true)
    (h : ∀ S1, Same S S1 → S1.h = S.h → S1.nx = S.nx + ops.length → runD fns W S.h S.nx pre 0 A.F S1 [] none R)
    (h2 : ∀ F S' ps hs ls, R F S' ps → (∀ m, (∀ i, i < K → Nat.testBit m i = true) → lastOk hs m = true) → (∀ m h' r, (∀ i, i < K → Nat.testBit m i = true) → loadsOk S.h (hs.reverse ++ (K, m, h') :: r) ls = true) → wpd fns suf K S.nx ⟨F, S', ps, hs, ls⟩ fun D' => loadsOk S.h D'.hs.reverse D'.ls = true ∧ Q .normal ⟨D'.F, A.inr⟩ ⟨(flush (2 ^ ops.length - 1) D'.ps D'.S.h).2, D'.S.nx⟩) : wpc fns (.drw ops) A S Q := by
  refine wpc_drw ?_
  obtain ⟨n, D', e1, e2, e3⟩ := runD_wpd (fns := fns) (i := 0) (D := ⟨A.F, ⟨S.h, S.nx + ops.length⟩, [], [], []⟩) (last := none) ⟨fun _ _ _ => rfl, Nat.le_add_right _ _, fun e he => (by cases he), fun l hl => (by cases hl), fun p hp => (by cases hp)⟩ rfl (h ⟨S.h, S.nx + ops.length⟩ (Same.nx S _) rfl rfl)
  have low : Low K D' := evDs_low e1 (by omega) (fun o ho => by have := List.all_eq_true.1 hm o ho; simpa using this) ⟨fun e he => (by cases he), fun l hl => (by cases hl)⟩
  obtain ⟨F, S', ps, hs, ls⟩ := D'
  have hh := h2 F S' ps hs ls e2 (fun m hm => by
    cases hs with
    | nil => rfl
    | cons e r => exact hm _ (low.1 e (List.mem_cons_self ..))) (fun m h' r hm => loadsOk_of fun l hl => loadGo_low (e3.lds l hl) (low.2 l hl) hm (fun e he => e3.chain e (List.mem_reverse.1 he)) (fun _ _ _ => rfl))
  have : wpd fns ops 0 S.nx ⟨A.F, ⟨S.h, S.nx + ops.length⟩, [], [], []⟩ fun D' => loadsOk S.h D'.hs.reverse D'.ls = true ∧ Q .normal ⟨D'.F, A.inr⟩ ⟨(flush (2 ^ ops.length - 1) D'.ps D'.S.h).2, D'.S.nx⟩ := by
    subst he
    refine wpd_app ⟨n, _, e1, ?_⟩
    rw [Nat.zero_add, hK]
    exact hh
  exact this
end Go.Ev.Gl

namespace Go.Ev.Gl
variable {fns : T AFn}

/-! ## Two games of the same content are alike -/
end Go.Ev.Gl

namespace Go.Ev.Gl
variable {fns : T AFn}

/-! ## A node's lists, copied -/
theorem sl_move {S S' : St} {v : AV} {l : List Int} (h : IsSl .i64 S v l) (hn : S.nx ≤ S'.nx) (hh : ∀ c, blkOf v = some c → S'.h.get c = S.h.get c) : IsSl .i64 S' v l := ofG (IsSlG.moveB (toG h) hn hh fun _ _ h => h)
end Go.Ev.Gl

namespace Go.Ev.Gl
variable {fns : T AFn}

end Go.Ev.Gl

namespace Go.Ev.Gl
variable {fns : T AFn}

/-! ## Nodes of one's own that grow in a block -/
def NodB (X : St) (P : Nat → Prop) (e : List AV) (a : PNode) : Prop := ∃ xa xw xp, e = [.int .i64 a.kind, .int .i64 a.player, .int .i64 a.info, xa, xw, xp] ∧ IsSl .i64 X xa a.next ∧ IsSl .i64 X xw a.weights ∧ IsSl .i64 X xp a.pay ∧ ∀ c, (blkOf xa = some c ∨ blkOf xw = some c ∨ blkOf xp = some c) → P c
theorem sl_low {k : IntKind} {X : St} {v : AV} {l : List Int} {c : Nat} (h : IsSl k X v l) (hc : blkOf v = some c) : c < X.nx := by
  rcases h with ⟨_, rfl | rfl⟩ | ⟨b, off, cap, o, cs, rfl, _, hb, _⟩
  · cases hc
  · cases hc
  · cases hc; exact hb
theorem NodB.move {X X' : St} {P P' : Nat → Prop} {e : List AV} {a : PNode} (h : NodB X P e a) (hn : X.nx ≤ X'.nx) (hh : ∀ c, c < X.nx → P c → X'.h.get c = X.h.get c ∧ P' c) : NodB X' P' e a := by
  obtain ⟨xa, xw, xp, rfl, h1, h2, h3, h4⟩ := h
  refine ⟨xa, xw, xp, rfl, sl_move h1 hn fun c hc => (hh c (sl_low h1 hc) (h4 c (.inl hc))).1, sl_move h2 hn fun c hc => (hh c (sl_low h2 hc) (h4 c (.inr (.inl hc)))).1, sl_move h3 hn fun c hc => (hh c (sl_low h3 hc) (h4 c (.inr (.inr hc)))).1, fun c hc => ?_⟩
  rcases hc with hc | hc | hc
  · exact (hh c (sl_low h1 hc) (h4 c (.inl hc))).2
  · exact (hh c (sl_low h2 hc) (h4 c (.inr (.inl hc)))).2
  · exact (hh c (sl_low h3 hc) (h4 c (.inr (.inr hc)))).2
theorem evA_n6 {t : Nat} {x : Opd} {F : Fr} {id : Nat} {k p f xa xw xp z0 z1 z2 z3 z4 z5 : AV} (hx : x.val F = .agg [k, p, f, xa, xw, xp]) : evA (.bslice t 6 1 [z0, z1, z2, z3, z4, z5] [(0, x)]) F id = some (.sl id 0 1 1 false, .cells [k, p, f, xa, xw, xp] false 0) := by
  show (osel (fillP (repeatL [z0, z1, z2, z3, z4, z5] 1) [(0 * 6, 6, x.val F)]) fun cs => some (AV.sl id 0 1 1 false, AB.cells cs false 0)) = _
  rw [hx]
  show (osel (osel (AV.cells (.agg [k, p, f, xa, xw, xp])) _) _) = _
  rw [cells_agg, osel_some]
  rfl
end Go.Ev.Gl

namespace Go.Ev.Gl
variable {fns : T AFn}

/-! ## A game of one's own -/
end Go.Ev.Gl

namespace Go.Ev.Gl
variable {fns : T AFn}

/-! ## DealPlays -/
end Go.Ev.Gl
