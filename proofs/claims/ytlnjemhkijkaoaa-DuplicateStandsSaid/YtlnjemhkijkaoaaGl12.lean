/- Contracts (12): rational numbers, the statements' tools, the law. -/
import Derived.Test.YtlnjemhkijkaoaaGl11
set_option maxHeartbeats 4000000
set_option linter.unusedSimpArgs false
set_option linter.unusedVariables false
namespace Go.Ev.Gl
variable {fns : T AFn}

/-! ## Choices that fit a game, of both sides -/
end Go.Ev.Gl

namespace Go.Ev.Gl
variable {fns : T AFn}

/-! ## A play of chosen actions, of both sides -/
end Go.Ev.Gl

namespace Go.Ev.Gl
variable {fns : T AFn}

/-! ## The reference's play -/
end Go.Ev.Gl

namespace Go.Ev.Gl
variable {fns : T AFn}

/-! ## A list behind an empty one: a copy of one's own -/
def Int1 (_ : St) (cs : List AV) (x : Int) : Prop := cs = [.int .i64 x]
theorem firm_int1 : Firm Int1 := fun h _ => h
theorem toG {S : St} {v : AV} {l : List Int} (h : IsSl .i64 S v l) : IsSlG 1 Int1 S v l := by
  rcases h with h | ⟨b, off, cap, o, cs, rfl, hc, hb, hcs, hel⟩
  · exact .inl h
  · refine .inr ⟨b, off, cap, o, cs, rfl, hc, hb, hcs, fun i a hi => ⟨[.int .i64 a], rfl, fun j x hj => ?_, rfl⟩⟩
    cases j with
    | zero => simp at hj; subst hj; rw [Nat.mul_one, Nat.add_zero]; exact hel i a hi
    | succ j => simp at hj
theorem ofG {S : St} {v : AV} {l : List Int} (h : IsSlG 1 Int1 S v l) : IsSl .i64 S v l := by
  rcases h with h | ⟨b, off, cap, o, cs, rfl, hc, hb, hcs, hel⟩
  · exact .inl h
  · refine .inr ⟨b, off, cap, o, cs, rfl, hc, hb, hcs, fun i a hi => ?_⟩
    obtain ⟨e, _, h2, h3⟩ := hel i a hi
    have h3 : e = [.int .i64 a] := h3
    subst h3
    have := h2 0 _ rfl
    rw [Nat.mul_one, Nat.add_zero] at this
    exact this
theorem IsSlG.moveB {k : Nat} {α : Type} {E : St → List AV → α → Prop} {S S' : St} {v : AV} {l : List α} (h : IsSlG k E S v l) (hn : S.nx ≤ S'.nx) (hh : ∀ c, blkOf v = some c → S'.h.get c = S.h.get c) (hE : ∀ e a, E S e a → E S' e a) : IsSlG k E S' v l := by
  rcases h with h | ⟨b, off, cap, o, cs, rfl, hc, hb, hcs, hel⟩
  · exact .inl h
  · refine .inr ⟨b, off, cap, o, cs, rfl, hc, Nat.lt_of_lt_of_le hb hn, ?_, fun i a hi => ?_⟩
    · unfold cellsAt
      rw [hh b rfl]
      exact hcs
    · obtain ⟨e, e1, e2, e3⟩ := hel i a hi
      exact ⟨e, e1, e2, hE e a e3⟩
theorem srcG {k : Nat} {α : Type} {E : St → List AV → α → Prop} {S : St} {v : AV} {l : List α} (hk : 0 < k) (h : IsSlG k E S v l) : ∃ new, lenOfV v = some l.length ∧ srcCells v S.h k l.length = some new ∧ ∀ i a, l[i]? = some a → ∃ e : List AV, e.length = k ∧ (∀ (j : Nat) (x : AV), e[j]? = some x → new[i * k + j]? = some x) ∧ E S e a := by
  rcases h with ⟨rfl, h⟩ | ⟨b, off, cap, o, cs, rfl, hc, hb, hcs, hel⟩
  · rcases h with rfl | rfl <;> exact ⟨[], rfl, rfl, fun i a hi => by simp at hi⟩
  · rcases Nat.eq_zero_or_pos l.length with h0 | hp
    · have hl : l = [] := List.length_eq_zero_iff.1 h0
      subst hl
      refine ⟨[], rfl, ?_, fun i a hi => by simp at hi⟩
      show (osel (cellsAt S.h b) fun cs => cut cs off (0 * k)) = _
      rw [hcs, osel_some, Nat.zero_mul]
      unfold cut
      rw [takeL_eq, dropL_eq, if_pos (Nat.zero_le _)]
      rfl
    · have hle : off + l.length * k ≤ cs.length := by
        obtain ⟨e, e1, e2, _⟩ := hel (l.length - 1) _ (List.getElem?_eq_getElem (by omega))
        have := e2 (k - 1) _ (List.getElem?_eq_getElem (by omega))
        have h3 := (List.getElem?_eq_some_iff.1 this).1
        have h4 : (l.length - 1) * k + k = l.length * k := by
          rw [← Nat.succ_mul]
          congr 1
          omega
        omega
      refine ⟨(cs.drop off).take (l.length * k), rfl, ?_, fun i a hi => ?_⟩
      · show (osel (cellsAt S.h b) fun cs => cut cs off (l.length * k)) = _
        rw [hcs, osel_some]
        unfold cut
        rw [takeL_eq, dropL_eq, if_pos (by rw [List.length_drop]; omega)]
      · obtain ⟨e, e1, e2, e3⟩ := hel i a hi
        refine ⟨e, e1, fun j x hj => ?_, e3⟩
        have hlt := (List.getElem?_eq_some_iff.1 hi).1
        have hj1 := (List.getElem?_eq_some_iff.1 hj).1
        have h5 : i * k + k ≤ l.length * k := by
          rw [← Nat.succ_mul]
          exact Nat.mul_le_mul_right k hlt
        rw [List.getElem?_take_of_lt (by omega), List.getElem?_drop]
        have := e2 j x hj
        rw [Nat.add_assoc] at this
        exact this
/-- a block that may be written -/
def Wr (X : St) (c : Nat) : Prop := ∃ cs o sz, X.h.get c = some (.cells cs o sz)
/-- a list behind an empty one -/
theorem app_cpW {k bytes b : Nat} {α : Type} {E : St → List AV → α → Prop} {S : St} {v : AV} {l : List α} (hE : Firm E) (hk : 0 < k) (hb : S.h.get b = some (.cells [] false 0)) (hbl : b < S.nx) (h : IsSlG k E S v l) (h1 : l.length ≤ room) (h2 : l.length * bytes ≤ room) :
    ∃ r S', appendV bytes k (.sl b 0 0 0 false) v S = some (r, S') ∧ IsSlG k E S' r l ∧ Same S S' ∧ (∀ c, blkOf r = some c → c = b ∨ S.nx ≤ c) ∧ ∀ c, blkOf r = some c → Wr S' c := by
  obtain ⟨new, e1, e2, e3⟩ := srcG hk h
  unfold appendV
  rw [e1, osel_some, e2, osel_some]
  show ∃ r S', appSl bytes k b 0 0 0 false l.length new S = some (r, S') ∧ _
  unfold appSl
  rcases Nat.eq_zero_or_pos l.length with h0 | hp
  · have hl : l = [] := List.length_eq_zero_iff.1 h0
    subst hl
    refine ⟨.sl b 0 0 0 false, S, rfl, .inr ⟨b, 0, 0, false, [], rfl, Nat.le_refl _, hbl, by unfold cellsAt; rw [hb]; rfl, fun i a hi => by simp at hi⟩, Same.refl S, fun c hc => ?_, fun c hc => ?_⟩
    · cases hc
      exact .inl rfl
    · cases hc
      exact ⟨_, _, _, hb⟩
  · have e5 : Nat.ble (0 + l.length) 0 = false := by
      rw [Bool.eq_false_iff]; intro e; have := Nat.le_of_ble_eq_true e; omega
    rw [e5, bsel_false, Nat.ble_eq_true_of_le (by omega), bsel_true, Nat.ble_eq_true_of_le (by rw [Nat.zero_add]; exact h2), bsel_true, hb, osel_some]
    have e4 : cut ([] : List AV) 0 (0 * k) = some [] := by
      unfold cut
      rw [takeL_eq, dropL_eq, Nat.zero_mul, if_pos (Nat.zero_le _)]
      rfl
    show ∃ r S', (osel (cut ([] : List AV) 0 (0 * k)) fun old => bsel false _ (grown S.h S.nx (0 + l.length) k (appL old new))) = some (r, S') ∧ _
    rw [e4, osel_some, bsel_false]
    refine ⟨_, _, rfl, .inr ⟨S.nx, 0, l.length, true, new, by rw [Nat.zero_add], Nat.le_refl _, by simp, ?_, fun i a hi => ?_⟩, Same.alloc S _, fun c hc => ?_, fun c hc => ?_⟩
    · unfold cellsAt
      simp only
      rw [T.get_set, if_pos rfl]
      rfl
    · obtain ⟨e, a1, a2, a3⟩ := e3 i a hi
      exact ⟨e, a1, fun j x hj => by rw [Nat.zero_add]; exact a2 j x hj, hE a3 (Same.alloc S _)⟩
    · cases hc
      exact .inr (Nat.le_refl _)
    · cases hc
      exact ⟨_, _, _, by simp only; rw [T.get_set, if_pos rfl]⟩
theorem app_cp {k bytes b : Nat} {α : Type} {E : St → List AV → α → Prop} {S : St} {v : AV} {l : List α} (hE : Firm E) (hk : 0 < k) (hb : S.h.get b = some (.cells [] false 0)) (hbl : b < S.nx) (h : IsSlG k E S v l) (h1 : l.length ≤ room) (h2 : l.length * bytes ≤ room) :
    ∃ r S', appendV bytes k (.sl b 0 0 0 false) v S = some (r, S') ∧ IsSlG k E S' r l ∧ Same S S' ∧ ∀ c, blkOf r = some c → c = b ∨ S.nx ≤ c := by
  obtain ⟨r, S', a, b', c, d, _⟩ := app_cpW (bytes := bytes) (E := E) hE hk hb hbl h h1 h2
  exact ⟨r, S', a, b', c, d⟩
end Go.Ev.Gl

namespace Go.Ev.Gl
variable {fns : T AFn}

/-! ## The pay of a play, of both sides -/
end Go.Ev.Gl

namespace Go.Ev.Gl
variable {fns : T AFn}

/-! ## The reference's pay -/
end Go.Ev.Gl

namespace Go.Ev.Gl
variable {fns : T AFn}

/-! ## Games that are alike (the same content) -/
end Go.Ev.Gl

namespace Go.Ev.Gl
variable {fns : T AFn}

/-! ## Drawn regions: plain loads, appends and calls first, stores behind them all -/
end Go.Ev.Gl

namespace Go.Ev.Gl
variable {fns : T AFn}

/-! ## Two games of the same content are alike -/
end Go.Ev.Gl

namespace Go.Ev.Gl
variable {fns : T AFn}

/-! ## A node's lists, copied -/
theorem sl_move {S S' : St} {v : AV} {l : List Int} (h : IsSl .i64 S v l) (hn : S.nx ≤ S'.nx) (hh : ∀ c, blkOf v = some c → S'.h.get c = S.h.get c) : IsSl .i64 S' v l := ofG (IsSlG.moveB (toG h) hn hh fun _ _ h => h)
end Go.Ev.Gl

namespace Go.Ev.Gl
variable {fns : T AFn}

end Go.Ev.Gl

namespace Go.Ev.Gl
variable {fns : T AFn}

/-! ## Nodes of one's own that grow in a block -/
end Go.Ev.Gl

namespace Go.Ev.Gl
variable {fns : T AFn}

/-! ## A game of one's own -/
end Go.Ev.Gl

namespace Go.Ev.Gl
variable {fns : T AFn}

/-! ## DealPlays -/
end Go.Ev.Gl
