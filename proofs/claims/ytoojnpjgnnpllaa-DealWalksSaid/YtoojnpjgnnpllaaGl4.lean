/- Contracts (4): rational numbers, the statements' tools, the law. -/
import Derived.Test.YtoojnpjgnnpllaaGl3
set_option maxHeartbeats 4000000
set_option linter.unusedSimpArgs false
set_option linter.unusedVariables false
namespace Go.Ev.Gl
variable {fns : T AFn}

/-! ## The reference's natural numbers: functions with the same code -/
/-! ## The reference's natural numbers: Check -/
end Go.Ev.Gl

namespace Go.Ev.Gl
variable {fns : T AFn}

/-! ## The reference's sums and differences -/
/-! ## What is trimmed lies where it lay -/
/-- limbs in a block of one's own -/
def OwnIs (S0 S : St) (v : AV) (l : List Nat) : Prop :=
  (l = [] ∧ v = .nilsl) ∨ ∃ b cap o e s rest, v = .sl b 0 l.length cap o ∧ l.length ≤ cap ∧ S0.nx ≤ b ∧ b < S.nx ∧ S.h.get b = some (.cells (cells32 (l ++ rest)) e s)
theorem OwnIs.limbs {S0 S : St} {v : AV} {l : List Nat} (h : OwnIs S0 S v l) : LimbIs S v l := by
  rcases h with ⟨rfl, rfl⟩ | ⟨b, cap, o, e, s, rest, rfl, h1, h2, h3, h4⟩
  · exact .inl ⟨rfl, .inl rfl⟩
  · exact limbs_part h4 h3 h1
theorem GrIs.own {S0 S : St} {v : AV} {d : List Nat} (h : GrIs S0 S v d) : OwnIs S0 S v d := by
  rcases id h with ⟨rfl, rfl⟩ | ⟨b, rfl, h1, h2, h3⟩
  · exact .inl ⟨rfl, rfl⟩
  · exact .inr ⟨b, d.length, true, true, 1, [], rfl, Nat.le_refl _, h1, h2, by rw [List.append_nil]; exact h3⟩
theorem OwnIs.head {S0 S : St} {v r : AV} {l : List Nat} {n : Nat} (h : OwnIs S0 S v l) (hr : r = v ∧ n = l.length ∨ n < l.length ∧ r = slHead v n) : OwnIs S0 S r (l.take n) := by
  rcases hr with ⟨rfl, rfl⟩ | ⟨hn, rfl⟩
  · rw [List.take_length]; exact h
  · rcases h with ⟨rfl, h⟩ | ⟨b, cap, o, e, s, rest, rfl, h1, h2, h3, h4⟩
    · simp at hn
    · refine .inr ⟨b, cap, o, e, s, l.drop n ++ rest, ?_, by rw [List.length_take]; omega, h2, h3, ?_⟩
      · rw [List.length_take, Nat.min_eq_left (by omega)]; rfl
      · rw [← List.append_assoc, List.take_append_drop]; exact h4
theorem OwnIs.low {S0 S1 S : St} {v : AV} {l : List Nat} (h : OwnIs S1 S v l) (hS : Same S0 S1) : OwnIs S0 S v l := by
  rcases h with h | ⟨b, cap, o, e, s, rest, h1, h2, h3, h4⟩
  · exact .inl h
  · exact .inr ⟨b, cap, o, e, s, rest, h1, h2, Nat.le_trans hS.1 h3, h4⟩
def OwnN (S0 S : St) (v : AV) (n : Nat) : Prop := ∃ l, OwnIs S0 S v l ∧ Norm l ∧ val l = n
end Go.Ev.Gl

namespace Go.Ev.Gl
variable {fns : T AFn}

/-! ## The reference's products -/
end Go.Ev.Gl

namespace Go.Ev.Gl
variable {fns : T AFn}

/-! ## Appending lists -/
theorem beq_false {a b : Nat} (h : a ≠ b) : Nat.beq a b = false := by rw [Bool.eq_false_iff]; intro e; rw [Nat.beq_eq] at e; exact h e
/-- a slice's tail -/
theorem LimbIs.tail {S : St} {v : AV} {l : List Nat} (h : LimbIs S v l) {i : Nat} (hi : i ≤ l.length) {F : Fr} {x : Opd} (hx : natOf (x.val F) = some i) : ∃ u, slcV (.slice 1) v (some x) none none F = some u ∧ LimbIs S u (l.drop i) := by
  rcases h with ⟨h0, h⟩ | ⟨b, off, cap, o, cs, rfl, hc, hb, hcs, hel⟩
  · simp at h0
    subst h0
    have hi0 : i = 0 := by simpa using hi
    subst hi0
    rcases h with rfl | rfl
    · refine ⟨.nilsl, ?_, .inl ⟨rfl, .inl rfl⟩⟩
      simp only [slcV, slNil, bounds, optNat, osel_some, hx]; rfl
    · refine ⟨.emp, ?_, .inl ⟨rfl, .inr rfl⟩⟩
      simp only [slcV, slEmp, bounds, optNat, osel_some, hx]; rfl
  · rw [List.length_map] at hc
    have e1 : Nat.ble cap cap = true := Nat.ble_eq_true_of_le (Nat.le_refl _)
    have e2 : Nat.ble l.length cap = true := Nat.ble_eq_true_of_le hc
    have e3 : Nat.ble i l.length = true := Nat.ble_eq_true_of_le hi
    simp only [slcV, slSl, bounds, optNat, osel_some, hx, List.length_map, e1, e2, e3, bsel_true, Option.isNone_none]
    rcases Nat.lt_or_ge i cap with hlt | hge
    · rw [beq_false (show cap ≠ i by omega), bsel_false]
      refine ⟨_, rfl, .inr ⟨b, off + i * 1, cap - i, bsel o true false, cs, ?_, ?_, hb, hcs, ?_⟩⟩
      · rw [List.length_map, List.length_drop]
      · rw [List.length_map, List.length_drop]; omega
      · intro j y hj
        rw [List.map_drop, List.getElem?_drop] at hj
        have := hel (i + j) y hj
        rw [show off + i * 1 + j = off + (i + j) by omega]
        exact this
    · have hil : i = l.length := by omega
      have hic : cap = i := by omega
      rw [show Nat.beq cap i = true by rw [Nat.beq_eq]; exact hic, bsel_true, List.drop_of_length_le (by omega)]
      cases o with
      | true => exact ⟨.emp, rfl, .inl ⟨rfl, .inr rfl⟩⟩
      | false => exact ⟨_, rfl, .inr ⟨b, off, cap - i, false, cs, by rw [List.map_nil, List.length_nil, show l.length - i = 0 by omega], by simp, hb, hcs, fun j y hj => by simp at hj⟩⟩
end Go.Ev.Gl

namespace Go.Ev.Gl
variable {fns : T AFn}

/-! ## The reference's long division -/
theorem OwnN.low {S0 S1 S : St} {v : AV} {n : Nat} (h : OwnN S1 S v n) (hS : Same S0 S1) : OwnN S0 S v n := by
  obtain ⟨l, h1, h2⟩ := h
  exact ⟨l, h1.low hS, h2⟩

end Go.Ev.Gl

namespace Go.Ev.Gl
variable {fns : T AFn}

end Go.Ev.Gl

namespace Go.Ev.Gl
variable {fns : T AFn}

theorem runD_app {W : Nat → Prop} {h0 : T AB} {base i : Nat} {l : List AO} {F : Fr} {S : St} {ps : List Pend} {last : Option Nat} {Q : Fr → St → List Pend → Prop} {d : Option Nat} {m t size bytes : Nat} {s x : Opd} {r : AV} {S1 : St} (h : inMask last m = true) (he : appendV bytes size (s.val F) (x.val F) ⟨(flush m ps S.h).2, S.nx⟩ = some (r, S1)) (ho : OffW W base ⟨(flush m ps S.h).2, S.nx⟩ S1) (hr : runD fns W h0 base l (i + 1) (putF d F r) S1 (flush m ps S.h).1 (some i) Q) : runD fns W h0 base (⟨d, .x (.app t size bytes s x), none, m⟩ :: l) i F S ps last Q := by
  unfold runD; rw [if_pos (show wants none F = true from rfl)]; exact ⟨h, _, S1, fun call => he, ho, hr⟩
end Go.Ev.Gl

namespace Go.Ev.Gl
variable {fns : T AFn}

/-! ## The reference's greatest common divisor and lowest terms -/
theorem evA_none {t z : Nat} {zs : List AV} {F : Fr} {id : Nat} : evA (.bslice t z 0 zs []) F id = some (.sl id 0 0 0 false, .cells [] false 0) := rfl

end Go.Ev.Gl

namespace Go.Ev.Gl
variable {fns : T AFn}

/-! ## The reference's rational numbers -/
end Go.Ev.Gl

namespace Go.Ev.Gl
variable {fns : T AFn}

/-! ## The reference's rational numbers: sums, products, order -/
end Go.Ev.Gl

namespace Go.Ev.Gl
variable {fns : T AFn}

end Go.Ev.Gl

namespace Go.Ev.Gl
variable {fns : T AFn}

/-! ## Operations on two numbers that are looked at first -/
end Go.Ev.Gl

namespace Go.Ev.Gl
variable {fns : T AFn}

/-- two numbers that are handed over: the error that they have, and what they are if there is none -/
structure Pair (S : St) (a b : AV) (E : Int) (p q : Rat) : Prop where
  raw : ∃ s l m t l2 m2, RawIs S a s l m ∧ RawIs S b t l2 m2 ∧ E = if rchk s l m ≠ 0 then rchk s l m else rchk t l2 m2
  ok : E = 0 → RatIs S a p ∧ RatIs S b q ∧ Bnd 30 p ∧ Bnd 30 q
theorem Pair.same {S S' : St} {a b : AV} {E : Int} {p q : Rat} (h : Pair S a b E p q) (hs : Same S S') : Pair S' a b E p q := by
  obtain ⟨⟨s, l, m, t, l2, m2, h1, h2, h3⟩, h4⟩ := h
  exact ⟨⟨s, l, m, t, l2, m2, h1.same hs, h2.same hs, h3⟩, fun hE => ⟨(h4 hE).1.same hs, (h4 hE).2.1.same hs, (h4 hE).2.2⟩⟩
theorem Pair.cells {S : St} {a b : AV} {E : Int} {p q : Rat} (h : Pair S a b E p q) : ∃ a0 a1 a2 b0 b1 b2, a = .agg [a0, a1, a2] ∧ b = .agg [b0, b1, b2] := by
  obtain ⟨⟨s, l, m, t, l2, m2, ⟨n1, d1, rfl, _⟩, ⟨n2, d2, rfl, _⟩, _⟩, _⟩ := h
  exact ⟨_, _, _, _, _, _, rfl, rfl⟩
section
variable {S : St} {a b : AV} {E : Int} {p q : Rat}

/-! ### the reference's -/
end
end Go.Ev.Gl

namespace Go.Ev.Gl
variable {fns : T AFn}

/-! ## Comparing; copies; equality -/
section
variable {S : St} {a b : AV} {E : Int} {p q : Rat}
end

/-- a number or none, as cells -/
def OptIs (S : St) (cs : List AV) (o : Option Rat) : Prop := match o with
  | some q => RatIs S (.agg cs) q
  | none => cs = [.bool false, .nilsl, .nilsl]
theorem OptIs.same {S S' : St} {cs : List AV} {o : Option Rat} (h : OptIs S cs o) (hs : Same S S') : OptIs S' cs o := by
  cases o with
  | none => exact h
  | some q => exact RatIs.same h hs
theorem OptIs.st {S S' : St} {cs0 : List AV} {o : Option Rat} {b : Nat} {cs cs' : List AV} {e e' : Bool} {s s' : Nat} (h : OptIs S cs0 o) (hb : S.h.get b = some (.cells cs e s)) (hn : noInt cs = true) (hs : SameBut b S S') (hb' : S'.h.get b = some (.cells cs' e' s')) : OptIs S' cs0 o := by
  cases o with
  | none => exact h
  | some q => exact RatIs.st h hb hn hs hb'
theorem Fresh.alloc {S : St} (h : Fresh S) (bl : AB) : Fresh ⟨S.h.set S.nx (some bl), S.nx + 1⟩ := fun b hb => by
  simp only at hb ⊢
  rw [T.get_set, if_neg (by omega)]
  exact h b (by omega)

end Go.Ev.Gl
