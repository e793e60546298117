/- Contracts (12): rational numbers, the statements' tools, the law. -/
import Derived.Test.YtoojnpjgnnpllaaGl11
set_option maxHeartbeats 4000000
set_option linter.unusedSimpArgs false
set_option linter.unusedVariables false
namespace Go.Ev.Gl
variable {fns : T AFn}

/-! ## Choices that fit a game, of both sides -/
def okC (g : PGame) (l : List Int) (i : Nat) : Prop := 0 ≤ l.getD i 0 ∧ l.getD i 0 < (infoAt g (i : Int)).actions
instance okCDec (g : PGame) (l : List Int) (i : Nat) : Decidable (okC g l i) := by unfold okC; exact inferInstance
def chsE (g : PGame) (l : List Int) : Int := if l.length ≠ g.infos.length then 10 else if ∀ i, i < l.length → okC g l i then 0 else 2
noncomputable def chsN (g : PGame) (l : List Int) (pr : Nat → Nat) : Int := if formE g ≠ 0 then 0 else if chsE g l ≠ 0 then 0 else sizeN g pr
noncomputable def chsR (g : PGame) (l : List Int) (pr : Nat → Nat) : Int := if formE g ≠ 0 then formE g else if chsE g l ≠ 0 then chsE g l else sizeR g pr
theorem chs_bad {g : PGame} {l : List Int} {pr : Nat → Nat} {e : Int} (h0 : formE g = 0) (h : chsE g l = e) (he : e ≠ 0) : chsN g l pr = 0 ∧ chsR g l pr = e := by
  subst h
  unfold chsN chsR
  simp only [h0, he, ne_eq, not_true_eq_false, not_false_eq_true, if_false, if_true, and_self]
theorem infoAt_some {g : PGame} {i : Nat} (hi : i < g.infos.length) : g.infos[i]? = some (infoAt g (i : Int)) := by
  unfold infoAt
  rw [Int.toNat_natCast, List.getD_eq_getElem?_getD, List.getElem?_eq_getElem hi]
  rfl
theorem chsE_zero {g : PGame} {l : List Int} (h : chsE g l = 0) : l.length = g.infos.length ∧ ∀ i, i < l.length → okC g l i := by
  unfold chsE at h
  split at h
  · cases h
  rename_i h1
  split at h
  · rename_i h2; exact ⟨Decidable.not_not.1 h1, h2⟩
  · cases h
end Go.Ev.Gl

namespace Go.Ev.Gl
variable {fns : T AFn}

/-! ## A play of chosen actions, of both sides -/
noncomputable def pathE (g : PGame) (l : List Int) (pr : Nat → Nat) (s : Int) : Int := if chsR g l pr ≠ 0 then chsR g l pr else if s < 0 ∨ chsN g l pr ≤ s then 2 else 0
theorem chsR_zero {g : PGame} {l : List Int} {pr : Nat → Nat} (h : chsR g l pr = 0) : formE g = 0 ∧ chsE g l = 0 := by
  by_cases h0 : formE g = 0
  · by_cases h1 : chsE g l = 0
    · exact ⟨h0, h1⟩
    · exact absurd ((chs_bad (pr := pr) h0 rfl h1).2.symm.trans h) h1
  · unfold chsR at h
    rw [if_pos h0] at h
    exact absurd h h0
theorem pathE_zero {g : PGame} {l : List Int} {pr : Nat → Nat} {s : Int} (h : pathE g l pr s = 0) : chsR g l pr = 0 ∧ 0 ≤ s ∧ s < chsN g l pr := by
  by_cases h1 : chsR g l pr = 0
  · unfold pathE at h
    rw [if_neg (fun h' => h' h1)] at h
    split at h
    · cases h
    · omega
  · unfold pathE at h
    rw [if_pos h1] at h
    exact absurd h h1
def PathR (S : St) (v : AV) (g : PGame) (l : List Int) (pr : Nat → Nat) (s : Int) (r : AV) (X : St) : Prop := Same S X ∧ ∃ x, r = .tup [x, .int .i64 (pathE g l pr s)] ∧ (pathE g l pr s ≠ 0 → x = .nilsl) ∧ (pathE g l pr s = 0 → IsSl .i64 X x (pathL g (decF v l) g.nodes.length 0 s.toNat))
theorem mkF {t s : Nat} {v : AV} {F : Fr} {h : Ev.T AB} (e : tmpV s F = v) : evQ (.mkIface t (.t s)) F h = some (.iface t v) := by show some (AV.iface _ (tmpV s F)) = _; rw [e]
end Go.Ev.Gl

namespace Go.Ev.Gl
variable {fns : T AFn}

/-! ## The reference's play -/
/-- the list that grows: as it was made, or grown -/
def OutR (Y X : St) (v : AV) (p : List Int) : Prop := (∃ b x, v = .sl b 0 1 1 false ∧ p = [x] ∧ Y.nx ≤ b ∧ b < X.nx ∧ X.h.get b = some (.cells [.int .i64 x] false 0)) ∨ GrW 1 Y X v p.length (cells64 p)
theorem OutR.step {Y X X' : St} {v : AV} {p : List Int} (h : OutR Y X v p) (hs : Same X X') : OutR Y X' v p := by
  rcases h with ⟨b, x, h1, h2, h3, h4, h5⟩ | h
  · exact .inl ⟨b, x, h1, h2, h3, Nat.lt_of_lt_of_le h4 hs.1, (hs.2 b h4).trans h5⟩
  · exact .inr (h.step hs)
theorem OutR.is {Y X : St} {v : AV} {p : List Int} (h : OutR Y X v p) : IsSl .i64 X v p := by
  rcases h with ⟨b, x, rfl, rfl, _, h4, h5⟩ | h
  · refine .inr ⟨b, 0, 1, false, [.int .i64 x], rfl, Nat.le_refl _, h4, by unfold cellsAt; rw [h5]; rfl, fun i y hi => ?_⟩
    rw [Nat.zero_add]
    cases i with
    | zero => simp at hi; subst hi; rfl
    | succ i => simp at hi
  · exact h.is
theorem OutR.blk {Y X : St} {v : AV} {p : List Int} {c : Nat} (h : OutR Y X v p) (hc : blkOf v = some c) : Y.nx ≤ c ∧ c < X.nx := by
  rcases h with ⟨b, x, rfl, _, h3, h4, _⟩ | h
  · cases hc; exact ⟨h3, h4⟩
  · exact ⟨(h.blk hc).1, (h.blk hc).2.1⟩
theorem OutR.push {bytes t : Nat} {Y S : St} {v : AV} {p : List Int} {w : Int} (h : OutR Y S v p) (hS : Same Y S) (ht : S.h.get t = some (.cells [.int .i64 w] false 0)) (h1 : p.length + 1 ≤ room) (h2 : (p.length + 1) * bytes ≤ room) :
    ∃ v' S', appendV bytes 1 v (.sl t 0 1 1 false) S = some (v', S') ∧ OutR Y S' v' (p ++ [w]) ∧ S'.nx = S.nx + 1 ∧ ∀ c, c < S.nx → blkOf v ≠ some c → S'.h.get c = S.h.get c := by
  rcases h with ⟨b, x, rfl, rfl, h3, h4, h5⟩ | h
  · have hs := src1 ht
    have h1 : 1 + 1 ≤ room := h1
    have h2 : (1 + 1) * bytes ≤ room := h2
    refine ⟨.sl S.nx 0 2 2 true, ⟨S.h.set S.nx (some (.cells [.int .i64 x, .int .i64 w] true 1)), S.nx + 1⟩, ?_, .inr (.inr ⟨S.nx, rfl, hS.1, by simp, ?_, rfl⟩), rfl, fun c hc _ => (Same.alloc S _).2 c hc⟩
    · show (osel (some 1) fun j => osel (srcCells (.sl t 0 1 1 false) S.h 1 j) fun new => appV (.sl b 0 1 1 false) bytes 1 j new S) = _
      rw [osel_some, hs, osel_some]
      show appSl bytes 1 b 0 1 1 false 1 [.int .i64 w] S = _
      unfold appSl
      rw [show Nat.ble (1 + 1) 1 = false from rfl, bsel_false, Nat.ble_eq_true_of_le h1, bsel_true, Nat.ble_eq_true_of_le h2, bsel_true, h5, osel_some]
      rfl
    · simp only
      rw [T.get_set, if_pos rfl]
      rfl
  · obtain ⟨v', S', e, g, _, n, r⟩ := h.push hS ht h1 h2
    exact ⟨v', S', e, .inr g, n, r⟩
/-- one step of a play -/
theorem pathL_end {g : PGame} {D : Dec} {k i s : Nat} (h : (nodeAt g i).kind = 3) : pathL g D (k + 1) i s = [(i : Int)] := by simp only [pathL]; rw [if_pos h]
theorem pathL_chance {g : PGame} {D : Dec} {k i s : Nat} (h : (nodeAt g i).kind = 1) : pathL g D (k + 1) i s = (i : Int) :: pathL g D k ((nodeAt g i).next.getD (pickN (nodeAt g i).weights ((s % (nodeAt g i).weights.sum.toNat : Nat) : Int)) 0).toNat (s / (nodeAt g i).weights.sum.toNat) := by
  simp only [pathL]
  rw [if_neg (by omega)]
  unfold decAt
  rw [if_pos h]
  rfl
end Go.Ev.Gl

namespace Go.Ev.Gl
variable {fns : T AFn}

/-! ## A list behind an empty one: a copy of one's own -/
def Int1 (_ : St) (cs : List AV) (x : Int) : Prop := cs = [.int .i64 x]
theorem firm_int1 : Firm Int1 := fun h _ => h
theorem toG {S : St} {v : AV} {l : List Int} (h : IsSl .i64 S v l) : IsSlG 1 Int1 S v l := by
  rcases h with h | ⟨b, off, cap, o, cs, rfl, hc, hb, hcs, hel⟩
  · exact .inl h
  · refine .inr ⟨b, off, cap, o, cs, rfl, hc, hb, hcs, fun i a hi => ⟨[.int .i64 a], rfl, fun j x hj => ?_, rfl⟩⟩
    cases j with
    | zero => simp at hj; subst hj; rw [Nat.mul_one, Nat.add_zero]; exact hel i a hi
    | succ j => simp at hj
theorem ofG {S : St} {v : AV} {l : List Int} (h : IsSlG 1 Int1 S v l) : IsSl .i64 S v l := by
  rcases h with h | ⟨b, off, cap, o, cs, rfl, hc, hb, hcs, hel⟩
  · exact .inl h
  · refine .inr ⟨b, off, cap, o, cs, rfl, hc, hb, hcs, fun i a hi => ?_⟩
    obtain ⟨e, _, h2, h3⟩ := hel i a hi
    have h3 : e = [.int .i64 a] := h3
    subst h3
    have := h2 0 _ rfl
    rw [Nat.mul_one, Nat.add_zero] at this
    exact this
theorem IsSlG.moveB {k : Nat} {α : Type} {E : St → List AV → α → Prop} {S S' : St} {v : AV} {l : List α} (h : IsSlG k E S v l) (hn : S.nx ≤ S'.nx) (hh : ∀ c, blkOf v = some c → S'.h.get c = S.h.get c) (hE : ∀ e a, E S e a → E S' e a) : IsSlG k E S' v l := by
  rcases h with h | ⟨b, off, cap, o, cs, rfl, hc, hb, hcs, hel⟩
  · exact .inl h
  · refine .inr ⟨b, off, cap, o, cs, rfl, hc, Nat.lt_of_lt_of_le hb hn, ?_, fun i a hi => ?_⟩
    · unfold cellsAt
      rw [hh b rfl]
      exact hcs
    · obtain ⟨e, e1, e2, e3⟩ := hel i a hi
      exact ⟨e, e1, e2, hE e a e3⟩
theorem srcG {k : Nat} {α : Type} {E : St → List AV → α → Prop} {S : St} {v : AV} {l : List α} (hk : 0 < k) (h : IsSlG k E S v l) : ∃ new, lenOfV v = some l.length ∧ srcCells v S.h k l.length = some new ∧ ∀ i a, l[i]? = some a → ∃ e : List AV, e.length = k ∧ (∀ (j : Nat) (x : AV), e[j]? = some x → new[i * k + j]? = some x) ∧ E S e a := by
  rcases h with ⟨rfl, h⟩ | ⟨b, off, cap, o, cs, rfl, hc, hb, hcs, hel⟩
  · rcases h with rfl | rfl <;> exact ⟨[], rfl, rfl, fun i a hi => by simp at hi⟩
  · rcases Nat.eq_zero_or_pos l.length with h0 | hp
    · have hl : l = [] := List.length_eq_zero_iff.1 h0
      subst hl
      refine ⟨[], rfl, ?_, fun i a hi => by simp at hi⟩
      show (osel (cellsAt S.h b) fun cs => cut cs off (0 * k)) = _
      rw [hcs, osel_some, Nat.zero_mul]
      unfold cut
      rw [takeL_eq, dropL_eq, if_pos (Nat.zero_le _)]
      rfl
    · have hle : off + l.length * k ≤ cs.length := by
        obtain ⟨e, e1, e2, _⟩ := hel (l.length - 1) _ (List.getElem?_eq_getElem (by omega))
        have := e2 (k - 1) _ (List.getElem?_eq_getElem (by omega))
        have h3 := (List.getElem?_eq_some_iff.1 this).1
        have h4 : (l.length - 1) * k + k = l.length * k := by
          rw [← Nat.succ_mul]
          congr 1
          omega
        omega
      refine ⟨(cs.drop off).take (l.length * k), rfl, ?_, fun i a hi => ?_⟩
      · show (osel (cellsAt S.h b) fun cs => cut cs off (l.length * k)) = _
        rw [hcs, osel_some]
        unfold cut
        rw [takeL_eq, dropL_eq, if_pos (by rw [List.length_drop]; omega)]
      · obtain ⟨e, e1, e2, e3⟩ := hel i a hi
        refine ⟨e, e1, fun j x hj => ?_, e3⟩
        have hlt := (List.getElem?_eq_some_iff.1 hi).1
        have hj1 := (List.getElem?_eq_some_iff.1 hj).1
        have h5 : i * k + k ≤ l.length * k := by
          rw [← Nat.succ_mul]
          exact Nat.mul_le_mul_right k hlt
        rw [List.getElem?_take_of_lt (by omega), List.getElem?_drop]
        have := e2 j x hj
        rw [Nat.add_assoc] at this
        exact this
/-- a list behind an empty one -/
theorem app_cp {k bytes b : Nat} {α : Type} {E : St → List AV → α → Prop} {S : St} {v : AV} {l : List α} (hE : Firm E) (hk : 0 < k) (hb : S.h.get b = some (.cells [] false 0)) (hbl : b < S.nx) (h : IsSlG k E S v l) (h1 : l.length ≤ room) (h2 : l.length * bytes ≤ room) :
    ∃ r S', appendV bytes k (.sl b 0 0 0 false) v S = some (r, S') ∧ IsSlG k E S' r l ∧ Same S S' ∧ ∀ c, blkOf r = some c → c = b ∨ S.nx ≤ c := by
  obtain ⟨new, e1, e2, e3⟩ := srcG hk h
  unfold appendV
  rw [e1, osel_some, e2, osel_some]
  show ∃ r S', appSl bytes k b 0 0 0 false l.length new S = some (r, S') ∧ _
  unfold appSl
  rcases Nat.eq_zero_or_pos l.length with h0 | hp
  · have hl : l = [] := List.length_eq_zero_iff.1 h0
    subst hl
    refine ⟨.sl b 0 0 0 false, S, rfl, .inr ⟨b, 0, 0, false, [], rfl, Nat.le_refl _, hbl, by unfold cellsAt; rw [hb]; rfl, fun i a hi => by simp at hi⟩, Same.refl S, fun c hc => ?_⟩
    cases hc
    exact .inl rfl
  · have e5 : Nat.ble (0 + l.length) 0 = false := by
      rw [Bool.eq_false_iff]; intro e; have := Nat.le_of_ble_eq_true e; omega
    rw [e5, bsel_false, Nat.ble_eq_true_of_le (by omega), bsel_true, Nat.ble_eq_true_of_le (by rw [Nat.zero_add]; exact h2), bsel_true, hb, osel_some]
    have e4 : cut ([] : List AV) 0 (0 * k) = some [] := by
      unfold cut
      rw [takeL_eq, dropL_eq, Nat.zero_mul, if_pos (Nat.zero_le _)]
      rfl
    show ∃ r S', (osel (cut ([] : List AV) 0 (0 * k)) fun old => bsel false _ (grown S.h S.nx (0 + l.length) k (appL old new))) = some (r, S') ∧ _
    rw [e4, osel_some, bsel_false]
    refine ⟨_, _, rfl, .inr ⟨S.nx, 0, l.length, true, new, by rw [Nat.zero_add], Nat.le_refl _, by simp, ?_, fun i a hi => ?_⟩, Same.alloc S _, fun c hc => ?_⟩
    · unfold cellsAt
      simp only
      rw [T.get_set, if_pos rfl]
      rfl
    · obtain ⟨e, a1, a2, a3⟩ := e3 i a hi
      exact ⟨e, a1, fun j x hj => by rw [Nat.zero_add]; exact a2 j x hj, hE a3 (Same.alloc S _)⟩
    · cases hc
      exact .inr (Nat.le_refl _)
end Go.Ev.Gl

namespace Go.Ev.Gl
variable {fns : T AFn}

/-! ## The pay of a play, of both sides -/
theorem path_val {g : PGame} {v w : AV} {l : List Int} : ∀ {k i s : Nat}, pathL g (decF v l) k i s = pathL g (decF w l) k i s
  | 0, _, _ => rfl
  | k + 1, i, s => by
    have h1 : (decAt (decF v l) (nodeAt g i)).rad (nodeAt g i) = (decAt (decF w l) (nodeAt g i)).rad (nodeAt g i) := by unfold decAt; split <;> rfl
    have h2 : ∀ d, (decAt (decF v l) (nodeAt g i)).chs (nodeAt g i) d = (decAt (decF w l) (nodeAt g i)).chs (nodeAt g i) d := fun d => by unfold decAt; split <;> rfl
    simp only [pathL, h1, h2, path_val (v := v) (w := w) (k := k)]
theorem path_all {S : St} {g : PGame} {D : Dec} (H : Has fns) (G : GoodK g) (hD : ∀ i, i < g.nodes.length → (nodeAt g i).kind = 2 → DecH fns S D (nodeAt g i)) : ∀ {k i s : Nat}, i < g.nodes.length → g.nodes.length ≤ k + i → 1 ≤ (pathL g D k i s).length ∧ (pathL g D k i s).length ≤ k ∧ (∀ j, j < (pathL g D k i s).length → 0 ≤ (pathL g D k i s).getD j 0 ∧ (pathL g D k i s).getD j 0 < g.nodes.length) ∧ (nodeAt g ((pathL g D k i s).getD ((pathL g D k i s).length - 1) 0).toNat).kind = 3
  | 0, i, s, hi, hk => by omega
  | k + 1, i, s, hi, hk => by
    simp only [pathL]
    split
    · rename_i hk3
      refine ⟨by simp, by simp, fun j hj => ?_, by simpa using hk3⟩
      have : j = 0 := by simpa using hj
      subst this
      simp only [List.getD_cons_zero]
      omega
    · rename_i hk3
      have hDA : DecH fns S (decAt D (nodeAt g i)) (nodeAt g i) := by
        unfold decAt
        split
        · rename_i h; exact decC_h H G hi h
        · rename_i h
          rcases G.knd i hi with h4 | h4 | h4
          · exact absurd h4 h
          · exact hD i hi h4
          · exact absurd h4 hk3
      obtain ⟨b1, b2⟩ := G.good.kids i hi _ (hDA.lt _ (Nat.mod_lt s hDA.pos))
      generalize (nodeAt g i).next.getD ((decAt D (nodeAt g i)).chs (nodeAt g i) (s % (decAt D (nodeAt g i)).rad (nodeAt g i))) 0 = c at *
      obtain ⟨c1, c2, c3, c4⟩ := path_all (s := s / (decAt D (nodeAt g i)).rad (nodeAt g i)) H G hD (k := k) (i := c.toNat) (by omega) (by omega)
      refine ⟨by simp, by simp only [List.length_cons]; omega, fun j hj => ?_, ?_⟩
      rotate_left
      · rw [List.length_cons, Nat.add_sub_cancel]
        generalize pathL g D k c.toNat _ = L at *
        obtain ⟨n, hn⟩ : ∃ n, L.length = n + 1 := ⟨L.length - 1, by omega⟩
        rw [hn, List.getD_cons_succ]
        rw [hn, Nat.add_sub_cancel] at c4
        exact c4
      cases j with
      | zero => simp only [List.getD_cons_zero]; omega
      | succ j => simp only [List.getD_cons_succ]; exact c3 j (by simpa using hj)
def pathC (g : PGame) (l : List Int) (s : Int) : List Int := pathL g (decF .nilsl l) g.nodes.length 0 s.toNat
def payL (g : PGame) (l : List Int) (s : Int) : List Int := (nodeAt g ((pathC g l s).getD ((pathC g l s).length - 1) 0).toNat).pay
def PayR (S : St) (g : PGame) (l : List Int) (pr : Nat → Nat) (s : Int) (r : AV) (X : St) : Prop := Same S X ∧ ∃ x, r = .tup [x, .int .i64 (pathE g l pr s)] ∧ (pathE g l pr s ≠ 0 → x = .nilsl) ∧ (pathE g l pr s = 0 → IsSl .i64 X x (payL g l s))
/-- what a play is where there is one -/
theorem path_facts {S : St} {v : AV} {g : PGame} {l : List Int} {pr : Nat → Nat} {s : Int} (H : Has fns) (hc : IsSl .i64 S v l) (h : pathE g l pr s = 0) : GoodK g ∧ pathL g (decF v l) g.nodes.length 0 s.toNat = pathC g l s ∧ 1 ≤ (pathC g l s).length ∧ (pathC g l s).length ≤ 100000 ∧ (∀ j, j < (pathC g l s).length → 0 ≤ (pathC g l s).getD j 0 ∧ (pathC g l s).getD j 0 < g.nodes.length) ∧ (payL g l s).length ≤ 10000000 := by
  obtain ⟨h1, _, _⟩ := pathE_zero h
  obtain ⟨h0, hch⟩ := chsR_zero h1
  have G := goodK_of h0
  obtain ⟨hlen, hok⟩ := chsE_zero hch
  have e : pathL g (decF v l) g.nodes.length 0 s.toNat = pathC g l s := path_val
  obtain ⟨a, b, c, d⟩ := path_all (s := s.toNat) H G (fun i hi hk => decF_h H G hc hlen hok hi hk) (k := g.nodes.length) G.good.n1 (by omega)
  rw [e] at a b c d
  have := G.good.n2
  have hlt := c _ (show (pathC g l s).length - 1 < (pathC g l s).length by omega)
  have hpp := G.pay _ (by omega) d
  have := G.prs
  exact ⟨G, e, a, by omega, c, by unfold payL; omega⟩
end Go.Ev.Gl

namespace Go.Ev.Gl
variable {fns : T AFn}

/-! ## The reference's pay -/
end Go.Ev.Gl

namespace Go.Ev.Gl
variable {fns : T AFn}

/-! ## Games that are alike (the same content) -/
end Go.Ev.Gl

namespace Go.Ev.Gl
variable {fns : T AFn}

/-! ## Drawn regions: plain loads, appends and calls first, stores behind them all -/
theorem wpd_app {base : Nat} {suf : List AO} {Q : DS → Prop} : ∀ {pre : List AO} {i : Nat} {D : DS}, wpd fns pre i base D (fun D' => wpd fns suf (i + pre.length) base D' Q) → wpd fns (pre ++ suf) i base D Q := by
  intro pre i D h
  obtain ⟨n, D1, h1, k, D2, h2, h3⟩ := h
  refine ⟨max n k, D2, ?_, h3⟩
  have h1' := evDs_mono (ev_mono fns (Nat.le_max_left n k)).call h1
  have h2' := evDs_mono (ev_mono fns (Nat.le_max_right n k)).call h2
  clear h1 h2
  induction pre generalizing i D with
  | nil => cases h1'; exact h2'
  | cons o os ih =>
    show osel (evD o i base (ev fns (max n k)).call D) _ = _
    have h1'' : osel (evD o i base (ev fns (max n k)).call D) (fun D' => evDs os (i + 1) base (ev fns (max n k)).call D') = some D1 := h1'
    cases he : evD o i base (ev fns (max n k)).call D with
    | none => rw [he] at h1''; cases h1''
    | some D' =>
      rw [he, osel_some] at h1''
      rw [osel_some]
      exact ih h1'' (by rw [List.length_cons] at h2'; rw [show i + 1 + os.length = i + (os.length + 1) by omega]; exact h2')
/-- where the region's effects and loads stand -/
def Low (K : Nat) (D : DS) : Prop := (∀ e ∈ D.hs, e.1 < K) ∧ ∀ l ∈ D.ls, l.i < K ∧ l.mask < 2 ^ K
theorem evD_low {call : CallF} {o : AO} {i base K : Nat} {D D' : DS} (h : evD o i base call D = some D') (hi : i < K) (hm : o.mask < 2 ^ K) (hD : Low K D) : Low K D' := by
  unfold evD at h
  cases hw : wants o.grd D.F with
  | false => rw [hw, bsel_false] at h; cases h; exact hD
  | true =>
    rw [hw, bsel_true] at h
    obtain ⟨d, op, g, m⟩ := o
    cases op with
    | q q =>
      have h : osel (evQ q D.F D.S.h) (fun v => some (⟨putF d D.F v, D.S, D.ps, D.hs, bsel (isLoad q) (⟨q, D.F, v, i, m⟩ :: D.ls) D.ls⟩ : DS)) = some D' := h
      cases he : evQ q D.F D.S.h with
      | none => rw [he] at h; cases h
      | some v =>
        rw [he, osel_some] at h
        cases h
        refine ⟨hD.1, fun l hl => ?_⟩
        simp only at hl
        cases hq : isLoad q with
        | false => rw [hq, bsel_false] at hl; exact hD.2 l hl
        | true =>
          rw [hq, bsel_true] at hl
          rcases List.mem_cons.1 hl with rfl | hl
          · exact ⟨hi, hm⟩
          · exact hD.2 l hl
    | a a =>
      have h : osel (evA a D.F (base + i)) (fun r => some (⟨putF d D.F r.1, D.S, ⟨i, base + i, r.2⟩ :: D.ps, D.hs, D.ls⟩ : DS)) = some D' := h
      cases he : evA a D.F (base + i) with
      | none => rw [he] at h; cases h
      | some v => rw [he, osel_some] at h; cases h; exact hD
    | x x =>
      have h : bsel (lastOk D.hs m) (osel (evX x call D.F ⟨(flush m D.ps D.S.h).2, D.S.nx⟩) fun r => some (⟨putF d D.F r.1, r.2, (flush m D.ps D.S.h).1, (i, m, r.2.h) :: D.hs, D.ls⟩ : DS)) none = some D' := h
      cases hl : lastOk D.hs m with
      | false => rw [hl, bsel_false] at h; cases h
      | true =>
        rw [hl, bsel_true] at h
        cases he : evX x call D.F ⟨(flush m D.ps D.S.h).2, D.S.nx⟩ with
        | none => rw [he] at h; cases h
        | some v =>
          rw [he, osel_some] at h
          cases h
          refine ⟨fun e he => ?_, hD.2⟩
          rcases List.mem_cons.1 he with rfl | he
          · exact hi
          · exact hD.1 e he
theorem evDs_low {call : CallF} {base K : Nat} : ∀ {l : List AO} {i : Nat} {D D' : DS}, evDs l i base call D = some D' → i + l.length ≤ K → (∀ o ∈ l, o.mask < 2 ^ K) → Low K D → Low K D'
  | [], i, D, D', h, _, _, hD => by cases h; exact hD
  | o :: os, i, D, D', h, hi, hm, hD => by
    have h : osel (evD o i base call D) (fun D' => evDs os (i + 1) base call D') = some D' := h
    rw [List.length_cons] at hi
    cases he : evD o i base call D with
    | none => rw [he] at h; cases h
    | some D1 =>
      rw [he, osel_some] at h
      exact evDs_low h (by omega) (fun o ho => hm o (List.mem_cons_of_mem _ ho)) (evD_low he (by omega) (hm o (List.mem_cons_self ..)) hD)
theorem loadGo_low {W : Nat → Prop} {h0 : T AB} {base K m : Nat} {h' : T AB} {r : List (Nat × Nat × T AB)} {l : Loaded} (h : sameV l.v l.v = true ∧ OldL W base l.q l.F ∧ evQ l.q l.F h0 = some l.v) (hl : l.i < K ∧ l.mask < 2 ^ K) (hm : ∀ i, i < K → Nat.testBit m i = true) : ∀ {hs : List (Nat × Nat × T AB)} {h1 : T AB}, (∀ e ∈ hs, ∀ b, b < base → ¬ W b → e.2.2.get b = h0.get b) → (∀ b, b < base → ¬ W b → h1.get b = h0.get b) → loadGo l (hs ++ (K, m, h') :: r) h1 = true
  | [], h1, _, hh => by
    have e1 : sameO l.v (evQ l.q l.F h1) = true := by rw [h.2.1.ev hh, h.2.2]; exact h.1
    have e2 : Nat.testBit l.mask K = false := Nat.testBit_lt_two_pow hl.2
    show loadGo l ((K, m, h') :: r) h1 = true
    unfold loadGo
    rw [e2, bsel_false, e1, bsel_true, hm _ hl.1, bsel_true]
  | (i, mm, h2) :: rr, h1, hs, hh => by
    have e1 : sameO l.v (evQ l.q l.F h1) = true := by rw [h.2.1.ev hh, h.2.2]; exact h.1
    have e2 : loadGo l (rr ++ (K, m, h') :: r) h2 = true := loadGo_low h hl hm (fun e he => hs e (by simp [he])) (hs (i, mm, h2) (by simp))
    show loadGo l ((i, mm, h2) :: (rr ++ (K, m, h') :: r)) h1 = true
    unfold loadGo
    rw [e1, e2]
    cases Nat.testBit l.mask i <;> cases Nat.testBit mm l.i <;> rfl
theorem wpc_pre {ops pre suf : List AO} {K : Nat} {A : Act'} {S : St} {Q : Out → Act' → St → Prop} {R : Fr → St → List Pend → Prop} (he : ops = pre ++ suf) (hK : pre.length = K) (hm : (pre.all fun o => decide (o.mask < 2 ^ K)) = true)
    (h : ∀ S1, Same S S1 → S1.h = S.h → S1.nx = S.nx + ops.length → runD fns (fun _ => False) S.h S.nx pre 0 A.F S1 [] none R)
    (h2 : ∀ F S' ps hs ls, R F S' ps → (∀ m, (∀ i, i < K → Nat.testBit m i = true) → lastOk hs m = true) → (∀ m h' r, (∀ i, i < K → Nat.testBit m i = true) → loadsOk S.h (hs.reverse ++ (K, m, h') :: r) ls = true) → wpd fns suf K S.nx ⟨F, S', ps, hs, ls⟩ fun D' => loadsOk S.h D'.hs.reverse D'.ls = true ∧ Q .normal ⟨D'.F, A.inr⟩ ⟨(flush (2 ^ ops.length - 1) D'.ps D'.S.h).2, D'.S.nx⟩) : wpc fns (.drw ops) A S Q := by
  refine wpc_drw ?_
  obtain ⟨n, D', e1, e2, e3⟩ := runD_wpd (fns := fns) (i := 0) (D := ⟨A.F, ⟨S.h, S.nx + ops.length⟩, [], [], []⟩) (last := none) ⟨fun _ _ _ => rfl, Nat.le_add_right _ _, fun e he => (by cases he), fun l hl => (by cases hl), fun p hp => (by cases hp)⟩ rfl (h ⟨S.h, S.nx + ops.length⟩ (Same.nx S _) rfl rfl)
  have low : Low K D' := evDs_low e1 (by omega) (fun o ho => by have := List.all_eq_true.1 hm o ho; simpa using this) ⟨fun e he => (by cases he), fun l hl => (by cases hl)⟩
  obtain ⟨F, S', ps, hs, ls⟩ := D'
  have hh := h2 F S' ps hs ls e2 (fun m hm => by
    cases hs with
    | nil => rfl
    | cons e r => exact hm _ (low.1 e (List.mem_cons_self ..))) (fun m h' r hm => loadsOk_of fun l hl => loadGo_low (e3.lds l hl) (low.2 l hl) hm (fun e he => e3.chain e (List.mem_reverse.1 he)) (fun _ _ _ => rfl))
  have : wpd fns ops 0 S.nx ⟨A.F, ⟨S.h, S.nx + ops.length⟩, [], [], []⟩ fun D' => loadsOk S.h D'.hs.reverse D'.ls = true ∧ Q .normal ⟨D'.F, A.inr⟩ ⟨(flush (2 ^ ops.length - 1) D'.ps D'.S.h).2, D'.S.nx⟩ := by
    subst he
    refine wpd_app ⟨n, _, e1, ?_⟩
    rw [Nat.zero_add, hK]
    exact hh
  exact this
end Go.Ev.Gl

namespace Go.Ev.Gl
variable {fns : T AFn}

/-! ## Two games of the same content are alike -/
end Go.Ev.Gl

namespace Go.Ev.Gl
variable {fns : T AFn}

/-! ## A node's lists, copied -/
theorem sl_move {S S' : St} {v : AV} {l : List Int} (h : IsSl .i64 S v l) (hn : S.nx ≤ S'.nx) (hh : ∀ c, blkOf v = some c → S'.h.get c = S.h.get c) : IsSl .i64 S' v l := ofG (IsSlG.moveB (toG h) hn hh fun _ _ h => h)
end Go.Ev.Gl

namespace Go.Ev.Gl
variable {fns : T AFn}

end Go.Ev.Gl

namespace Go.Ev.Gl
variable {fns : T AFn}

/-! ## Nodes of one's own that grow in a block -/
def NodB (X : St) (P : Nat → Prop) (e : List AV) (a : PNode) : Prop := ∃ xa xw xp, e = [.int .i64 a.kind, .int .i64 a.player, .int .i64 a.info, xa, xw, xp] ∧ IsSl .i64 X xa a.next ∧ IsSl .i64 X xw a.weights ∧ IsSl .i64 X xp a.pay ∧ ∀ c, (blkOf xa = some c ∨ blkOf xw = some c ∨ blkOf xp = some c) → P c
def NodesB (X : St) (P : Nat → Prop) (cs : List AV) (l : List PNode) : Prop := cs.length = l.length * 6 ∧ ∀ (j : Nat) (a : PNode), l[j]? = some a → ∃ e : List AV, e.length = 6 ∧ (∀ (q : Nat) (x : AV), e[q]? = some x → cs[j * 6 + q]? = some x) ∧ NodB X P e a
theorem sl_low {k : IntKind} {X : St} {v : AV} {l : List Int} {c : Nat} (h : IsSl k X v l) (hc : blkOf v = some c) : c < X.nx := by
  rcases h with ⟨_, rfl | rfl⟩ | ⟨b, off, cap, o, cs, rfl, _, hb, _⟩
  · cases hc
  · cases hc
  · cases hc; exact hb
theorem NodB.move {X X' : St} {P P' : Nat → Prop} {e : List AV} {a : PNode} (h : NodB X P e a) (hn : X.nx ≤ X'.nx) (hh : ∀ c, c < X.nx → P c → X'.h.get c = X.h.get c ∧ P' c) : NodB X' P' e a := by
  obtain ⟨xa, xw, xp, rfl, h1, h2, h3, h4⟩ := h
  refine ⟨xa, xw, xp, rfl, sl_move h1 hn fun c hc => (hh c (sl_low h1 hc) (h4 c (.inl hc))).1, sl_move h2 hn fun c hc => (hh c (sl_low h2 hc) (h4 c (.inr (.inl hc)))).1, sl_move h3 hn fun c hc => (hh c (sl_low h3 hc) (h4 c (.inr (.inr hc)))).1, fun c hc => ?_⟩
  rcases hc with hc | hc | hc
  · exact (hh c (sl_low h1 hc) (h4 c (.inl hc))).2
  · exact (hh c (sl_low h2 hc) (h4 c (.inr (.inl hc)))).2
  · exact (hh c (sl_low h3 hc) (h4 c (.inr (.inr hc)))).2
theorem NodesB.move {X X' : St} {P P' : Nat → Prop} {cs : List AV} {l : List PNode} (h : NodesB X P cs l) (hn : X.nx ≤ X'.nx) (hh : ∀ c, c < X.nx → P c → X'.h.get c = X.h.get c ∧ P' c) : NodesB X' P' cs l :=
  ⟨h.1, fun j a hj => by
    obtain ⟨e, e1, e2, e3⟩ := h.2 j a hj
    exact ⟨e, e1, e2, e3.move hn hh⟩⟩
theorem NodesB.push {X : St} {P : Nat → Prop} {cs e : List AV} {l : List PNode} {a : PNode} (h : NodesB X P cs l) (he : NodB X P e a) : NodesB X P (cs ++ e) (l ++ [a]) := by
  have hl : e.length = 6 := by
    obtain ⟨_, _, _, rfl, _⟩ := he
    rfl
  refine ⟨by rw [List.length_append, h.1, hl, List.length_append, List.length_singleton, Nat.add_mul], fun j b hj => ?_⟩
  rw [List.getElem?_append] at hj
  split at hj
  · obtain ⟨e', e1, e2, e3⟩ := h.2 j b hj
    refine ⟨e', e1, fun q x hq => ?_, e3⟩
    have := e2 q x hq
    rw [List.getElem?_append_left (List.getElem?_eq_some_iff.1 this).1]
    exact this
  · rename_i hlt
    have hj0 : j - l.length = 0 := by
      rcases Nat.eq_zero_or_pos (j - l.length) with h0 | h0
      · exact h0
      · obtain ⟨q, hq⟩ := Nat.exists_eq_succ_of_ne_zero (Nat.pos_iff_ne_zero.1 h0)
        rw [hq] at hj
        simp at hj
    rw [hj0] at hj
    simp at hj
    subst hj
    have hjl : j = l.length := by omega
    subst hjl
    refine ⟨e, hl, fun q x hq => ?_, he⟩
    rw [List.getElem?_append_right (by rw [h.1]; omega), h.1, Nat.add_sub_cancel_left]
    exact hq
theorem NodesB.is {X0 X : St} {P : Nat → Prop} {pv : AV} {cs : List AV} {l : List PNode} (h : NodesB X P cs l) (hg : GrW 6 X0 X pv l.length cs) : IsSlG 6 NodeE X pv l := by
  rcases hg with ⟨rfl, h0, _⟩ | ⟨b, rfl, _, hb, hc, _⟩
  · exact .inl ⟨List.length_eq_zero_iff.1 h0, .inl rfl⟩
  · refine .inr ⟨b, 0, l.length, true, cs, rfl, Nat.le_refl _, hb, by unfold cellsAt; rw [hc]; rfl, fun j a hj => ?_⟩
    obtain ⟨e, e1, e2, xa, xw, xp, h3, h4, h5, h6, _⟩ := h.2 j a hj
    exact ⟨e, e1, fun q x hq => by rw [Nat.zero_add]; exact e2 q x hq, xa, xw, xp, h3, h4, h5, h6⟩
end Go.Ev.Gl

namespace Go.Ev.Gl
variable {fns : T AFn}

/-! ## A game of one's own -/
end Go.Ev.Gl

namespace Go.Ev.Gl
variable {fns : T AFn}

/-! ## DealPlays -/
theorem isl_when {S : St} {v : AV} {l : List Int} {e : Int} (h0 : e ≠ 0 → v = .nilsl) (h1 : e = 0 → IsSl .i64 S v l) : IsSl .i64 S v (if e = 0 then l else []) := by
  by_cases h : e = 0
  · rw [if_pos h]; exact h1 h
  · rw [if_neg h, h0 h]; exact .inl ⟨rfl, .inl rfl⟩
theorem PathR.i {S X : St} {v r : AV} {g : PGame} {l : List Int} {pr : Nat → Nat} {s : Int} (h : PathR S v g l pr s r X) (H : Has fns) (hc : IsSl .i64 S v l) : Same S X ∧ ∃ x, r = .tup [x, .int .i64 (pathE g l pr s)] ∧ IsSl .i64 X x (if pathE g l pr s = 0 then pathC g l s else []) := by
  obtain ⟨h1, x, rfl, h2, h3⟩ := h
  exact ⟨h1, x, rfl, isl_when h2 fun e => by rw [← (path_facts H hc e).2.1]; exact h3 e⟩
theorem PayR.i {S X : St} {r : AV} {g : PGame} {l : List Int} {pr : Nat → Nat} {s : Int} (h : PayR S g l pr s r X) : Same S X ∧ ∃ x, r = .tup [x, .int .i64 (pathE g l pr s)] ∧ IsSl .i64 X x (if pathE g l pr s = 0 then payL g l s else []) := by
  obtain ⟨h1, x, rfl, h2, h3⟩ := h
  exact ⟨h1, x, rfl, isl_when h2 h3⟩
end Go.Ev.Gl
