/- Contracts (5): rational numbers, the statements' tools, the law. -/
import Derived.Test.YtffbfglbdghpaaaGreatDoorGl4
set_option maxHeartbeats 4000000
set_option linter.unusedSimpArgs false
set_option linter.unusedVariables false
namespace Go.Ev.Gl

/-! ## Decimal digits -/
/-- the value of a text of digits, the first one the highest -/
def decVal (s : List Nat) : Nat := s.foldl (fun x c => 10 * x + (c - 48)) 0
def Digits (s : List Nat) : Prop := ∀ c ∈ s, 48 ≤ c ∧ c ≤ 57
theorem decFold (s : List Nat) : ∀ x, s.foldl (fun x c => 10 * x + (c - 48)) x = 10 ^ s.length * x + decVal s := by
  unfold decVal
  induction s with
  | nil => intro x; simp
  | cons c s ih =>
    intro x
    simp only [List.foldl_cons, List.length_cons]
    rw [ih, ih (10 * 0 + (c - 48)), Nat.pow_succ]
    grind
theorem decVal_append (s t : List Nat) : decVal (s ++ t) = 10 ^ t.length * decVal s + decVal t := by
  unfold decVal
  rw [List.foldl_append, decFold]
  rfl
theorem decVal_nil : decVal [] = 0 := rfl
theorem decVal_one (c : Nat) : decVal [c] = c - 48 := by simp [decVal]
theorem decVal_cons (c : Nat) (s : List Nat) : decVal (c :: s) = 10 ^ s.length * (c - 48) + decVal s := by
  have := decVal_append [c] s
  rw [decVal_one] at this
  exact this
theorem decVal_lt {s : List Nat} (h : Digits s) : decVal s < 10 ^ s.length := by
  induction s with
  | nil => simp [decVal_nil]
  | cons c s ih =>
    rw [decVal_cons, List.length_cons, Nat.pow_succ]
    have h1 := ih fun x hx => h x (List.mem_cons_of_mem _ hx)
    have h2 := h c (List.mem_cons_self ..)
    have h3 : 10 ^ s.length * (c - 48) ≤ 10 ^ s.length * 9 := Nat.mul_le_mul_left _ (by omega)
    omega
theorem Digits.append {s t : List Nat} : Digits (s ++ t) ↔ Digits s ∧ Digits t := by
  unfold Digits
  constructor
  · intro h; exact ⟨fun c hc => h c (List.mem_append_left _ hc), fun c hc => h c (List.mem_append_right _ hc)⟩
  · rintro ⟨h1, h2⟩ c hc
    rcases List.mem_append.1 hc with h | h
    · exact h1 c h
    · exact h2 c h
/-- the text of a natural number -/
def IsDec (s : List Nat) (n : Nat) : Prop := Digits s ∧ s ≠ [] ∧ decVal s = n ∧ (s.head? = some 48 → s = [48])
end Go.Ev.Gl

namespace Go.Ev.Gl

/-! ## A number has one text -/
theorem IsDec.bounds {s : List Nat} {n : Nat} (h : IsDec s n) : n < 10 ^ s.length ∧ (0 < n → 10 ^ (s.length - 1) ≤ n) := by
  obtain ⟨h1, h2, rfl, h4⟩ := h
  refine ⟨decVal_lt h1, fun hp => ?_⟩
  obtain ⟨c, t, rfl⟩ : ∃ c t, s = c :: t := by cases s with | nil => exact absurd rfl h2 | cons c t => exact ⟨c, t, rfl⟩
  have hc := h1 c (List.mem_cons_self ..)
  have h48 : c ≠ 48 := fun e => by
    subst e
    have := h4 rfl
    rw [this, decVal_one] at hp
    omega
  rw [decVal_cons, List.length_cons, Nat.add_sub_cancel]
  have : 10 ^ t.length * 1 ≤ 10 ^ t.length * (c - 48) := Nat.mul_le_mul_left _ (by omega)
  omega
theorem IsDec.low {s : List Nat} {n : Nat} (h : IsDec s n) (h0 : s ≠ [48]) : 10 ^ (s.length - 1) ≤ n := by
  obtain ⟨h1, h2, rfl, h4⟩ := h
  obtain ⟨c, t, rfl⟩ : ∃ c t, s = c :: t := by cases s with | nil => exact absurd rfl h2 | cons c t => exact ⟨c, t, rfl⟩
  have hc := h1 c (List.mem_cons_self ..)
  have h48 : c ≠ 48 := fun e => by subst e; exact h0 (h4 rfl)
  rw [decVal_cons, List.length_cons, Nat.add_sub_cancel]
  have : 10 ^ t.length * 1 ≤ 10 ^ t.length * (c - 48) := Nat.mul_le_mul_left _ (by omega)
  omega
end Go.Ev.Gl

namespace Go.Ev.Gl

/-! ## A text as a natural number -/
/-! ## A text as a rational number -/
/-- the first number below n of a kind, n if there is none -/
def firstP (n : Nat) (P : Nat → Prop) [DecidablePred P] : Nat := (List.range n).findIdx fun i => decide (P i)
def isOdd (c : Nat) : Prop := ¬ ((48 ≤ c ∧ c ≤ 57) ∨ c = 45 ∨ c = 47)
instance isOddDec (c : Nat) : Decidable (isOdd c) := by unfold isOdd; exact inferInstance
def at' (s : List Nat) (i : Nat) : Nat := s[i]?.getD 0
def slashAt (s : List Nat) : Nat := firstP s.length fun i => at' s i = 47
def isMis (s : List Nat) (i : Nat) : Prop := (at' s i = 45 ∧ 0 < i) ∨ (at' s i = 47 ∧ ∃ j, j < i ∧ at' s j = 47)
instance isMisDec (s : List Nat) (i : Nat) : Decidable (isMis s i) := by unfold isMis; exact inferInstance
def below (s : List Nat) : List Nat := s.drop (slashAt s + 1)
end Go.Ev.Gl

namespace Go.Ev.Gl
variable {fns : T AFn}

/-! ## Bytes in blocks -/
end Go.Ev.Gl

namespace Go.Ev.Gl
variable {fns : T AFn}

/-! ## The text of a natural number -/
end Go.Ev.Gl

namespace Go.Ev.Gl
variable {fns : T AFn}

end Go.Ev.Gl

namespace Go.Ev.Gl
variable {fns : T AFn}

end Go.Ev.Gl

namespace Go.Ev.Gl
variable {fns : T AFn}

/-! ## Texts as values -/
end Go.Ev.Gl

namespace Go.Ev.Gl
variable {fns : T AFn}

/-! ## A text as a natural number -/
end Go.Ev.Gl

namespace Go.Ev.Gl
variable {fns : T AFn}

end Go.Ev.Gl

namespace Go.Ev.Gl
variable {fns : T AFn}

theorem GrIs.step {S0 S S' : St} {v : AV} {d : List Nat} (h : GrIs S0 S v d) (hs : Same S S') : GrIs S0 S' v d := by
  rcases h with h | ⟨b, h1, h2, h3, h4⟩
  · exact .inl h
  · exact .inr ⟨b, h1, h2, Nat.lt_of_lt_of_le h3 hs.1, (hs.2 b h3).trans h4⟩
theorem GrIs.but {S0 S S' : St} {v : AV} {d : List Nat} {c : Nat} (h : GrIs S0 S v d) (hs : SameBut c S S') (hc : c < S0.nx) : GrIs S0 S' v d := by
  rcases h with h | ⟨b, h1, h2, h3, h4⟩
  · exact .inl h
  · exact .inr ⟨b, h1, h2, Nat.lt_of_lt_of_le h3 hs.1, (hs.2 b h3 (by omega)).trans h4⟩
end Go.Ev.Gl

namespace Go.Ev.Gl
variable {fns : T AFn}

/-! ## The library's functions on texts: one byte sought -/
/-! ### parts of a text -/
end Go.Ev.Gl

namespace Go.Ev.Gl
variable {fns : T AFn}

end Go.Ev.Gl

namespace Go.Ev.Gl
variable {fns : T AFn}

end Go.Ev.Gl

namespace Go.Ev.Gl
variable {fns : T AFn}

/-! ## The simplest number between two positive numbers -/
end Go.Ev.Gl

namespace Go.Ev.Gl
variable {fns : T AFn}

/-! ## The simplest number between two numbers -/
theorem InBound.neg {q : Rat} (h : InBound q) : InBound (-q) := by
  unfold InBound
  rw [Rat.neg_num, Rat.neg_den, Int.natAbs_neg]
  exact h

end Go.Ev.Gl

namespace Go.Ev.Gl
variable {fns : T AFn}

/-! ## A store into a block that holds no limbs -/
def noU : List AV → Bool
  | [] => true
  | .int .u32 _ :: _ => false
  | _ :: l => noU l
theorem noU_get : ∀ {cs : List AV} {i : Nat} {n : Int}, noU cs = true → cs[i]? ≠ some (.int .u32 n)
  | [], _, _, _ => by simp
  | x :: l, 0, n, h => by
    intro e
    simp at e
    subst e
    simp [noU] at h
  | x :: l, i + 1, n, h => by
    rw [List.getElem?_cons_succ]
    refine noU_get (cs := l) ?_
    cases x with
    | int k m => cases k <;> first | exact h | (simp [noU] at h)
    | _ => exact h
theorem LimbIs.stU {S S' : St} {v : AV} {l : List Nat} {b : Nat} {cs cs' : List AV} {o o' : Bool} {s s' : Nat} (h : LimbIs S v l) (hb : S.h.get b = some (.cells cs o s)) (hn : noU cs = true) (hs : SameBut b S S') (hb' : S'.h.get b = some (.cells cs' o' s')) : LimbIs S' v l := by
  rcases h with h | ⟨b1, off, cap, o1, cs1, rfl, hc, hlt, hcs, hel⟩
  · exact .inl h
  · by_cases e : b1 = b
    · subst e
      have h0 : l = [] := by
        cases l with
        | nil => rfl
        | cons x l =>
          have := hel 0 (Int.ofNat x) (by simp)
          unfold cellsAt at hcs
          rw [hb, osel_some] at hcs
          cases hcs
          exact absurd this (noU_get hn)
      subst h0
      refine .inr ⟨b1, off, cap, o1, cs', rfl, hc, Nat.lt_of_lt_of_le hlt hs.1, by unfold cellsAt; rw [hb', osel_some]; rfl, fun i x hi => by simp at hi⟩
    · refine .inr ⟨b1, off, cap, o1, cs1, rfl, hc, Nat.lt_of_lt_of_le hlt hs.1, ?_, hel⟩
      unfold cellsAt at hcs ⊢
      rw [hs.2 _ hlt e]
      exact hcs
theorem NatIs.stU {S S' : St} {v : AV} {n : Nat} {b : Nat} {cs cs' : List AV} {o o' : Bool} {s s' : Nat} (h : NatIs S v n) (hb : S.h.get b = some (.cells cs o s)) (hn : noU cs = true) (hs : SameBut b S S') (hb' : S'.h.get b = some (.cells cs' o' s')) : NatIs S' v n := by
  obtain ⟨l, h1, h2, h3⟩ := h
  exact ⟨l, h1.stU hb hn hs hb', h2, h3⟩
theorem RatIs.stU {S S' : St} {v : AV} {q : Rat} {b : Nat} {cs cs' : List AV} {o o' : Bool} {s s' : Nat} (h : RatIs S v q) (hb : S.h.get b = some (.cells cs o s)) (hn : noU cs = true) (hs : SameBut b S S') (hb' : S'.h.get b = some (.cells cs' o' s')) : RatIs S' v q := by
  obtain ⟨nv, dv, h1, h2, h3⟩ := h
  exact ⟨nv, dv, h1, h2.stU hb hn hs hb', h3.stU hb hn hs hb'⟩

/-! ## Remainders -/
theorem bin_rem_t (e : EqT) {a b : Int} (hb : b ≠ 0) : binV .rem e (.int .i64 a) (.int .i64 b) = some (.int .i64 (a.tmod b)) := by
  show intsBin .rem .i64 a .i64 b = _
  unfold intsBin
  rw [show isShift .rem = false from rfl, bsel_false, keq_refl, bsel_true]
  show iRem .i64 a b = _
  unfold iRem
  split
  · rename_i m n
    have h0 : Nat.beq n 0 = false := by
      rw [Bool.eq_false_iff]; intro h; rw [Nat.beq_eq] at h; subst h; exact hb rfl
    rw [h0, bsel_false]
    rfl
  · have h0 : ieq b (.ofNat 0) = false := by
      rw [Bool.eq_false_iff]; intro h; rw [ieq_eq] at h; exact hb (by simpa using h)
    rw [h0, bsel_false]

end Go.Ev.Gl

namespace Go.Ev.Gl
variable {fns : T AFn}

/-! ## Draws -/
def DrawsAt (S : St) (bd : Nat) (slv : AV) (zs : List Int) (pos : Nat) : Prop :=
  S.h.get bd = some (.cells [slv, .int .i64 (pos : Int)] false 0) ∧ IsSl .i64 S slv zs ∧ (∀ b off len cap o, slv = .sl b off len cap o → b ≠ bd) ∧ bd < S.nx
theorem DrawsAt.same {S S' : St} {bd : Nat} {slv : AV} {zs : List Int} {pos : Nat} (h : DrawsAt S bd slv zs pos) (hs : Same S S') : DrawsAt S' bd slv zs pos := ⟨by rw [hs.2 _ h.2.2.2]; exact h.1, h.2.1.same hs, h.2.2.1, Nat.lt_of_lt_of_le h.2.2.2 hs.1⟩
section
variable {h : T AB} {b : Nat} {x y : AV} {o : Bool} {s : Nat}
theorem ld2_0 (hb : h.get b = some (.cells [x, y] o s)) : qLdV (.ptr b (0 + 0)) false 1 h = some x := by
  simp only [qLdV, loadV, bsel_false, load1, cellsAt, hb, osel_some, cellsOfB, nth_eq]; rfl
theorem ld2_1 (hb : h.get b = some (.cells [x, y] o s)) : qLdV (.ptr b (0 + 1)) false 1 h = some y := by
  simp only [qLdV, loadV, bsel_false, load1, cellsAt, hb, osel_some, cellsOfB, nth_eq]; rfl
end
end Go.Ev.Gl

namespace Go.Ev.Gl
variable {fns : T AFn}

/-! ## A text as a rational number: the program's Parse -/
theorem agg2_self {x y : AV} (h1 : sameV x x = true) (h2 : sameV y y = true) : sameV (.agg [x, y]) (.agg [x, y]) = true := by
  simp only [sameV, sameVs, h1, h2, bsel_true]
end Go.Ev.Gl

namespace Go.Ev.Gl
variable {fns : T AFn}

end Go.Ev.Gl

namespace Go.Ev.Gl
variable {fns : T AFn}

/-! ## Slices that grow, of elements of k cells -/
def blkOf : AV → Option Nat
  | .sl b _ _ _ _ => some b
  | _ => none
/-- a slice that grows from nil, in memory newer than S0's -/
def GrW (k : Nat) (S0 S : St) (v : AV) (n : Nat) (cs : List AV) : Prop :=
  (v = .nilsl ∧ n = 0 ∧ cs = []) ∨ ∃ b, v = .sl b 0 n n true ∧ S0.nx ≤ b ∧ b < S.nx ∧ S.h.get b = some (.cells cs true k) ∧ cs.length = n * k
theorem GrW.step {k n : Nat} {S0 S S' : St} {v : AV} {cs : List AV} (h : GrW k S0 S v n cs) (hs : Same S S') : GrW k S0 S' v n cs := by
  rcases h with h | ⟨b, h1, h2, h3, h4, h5⟩
  · exact .inl h
  · exact .inr ⟨b, h1, h2, Nat.lt_of_lt_of_le h3 hs.1, (hs.2 b h3).trans h4, h5⟩
theorem GrW.len {k n : Nat} {S0 S : St} {v : AV} {cs : List AV} (h : GrW k S0 S v n cs) : lenSlV v = some (.int .i64 ((n : Nat) : Int)) := by
  rcases h with ⟨rfl, rfl, _⟩ | ⟨b, rfl, _⟩ <;> rfl
theorem GrW.app {k n m bytes : Nat} {S0 S : St} {v x : AV} {cs new : List AV} (h : GrW k S0 S v n cs) (hS : Same S0 S) (hl : lenOfV x = some m) (hs : srcCells x S.h k m = some new) (hn : new.length = m * k) (hm : 0 < m) (h1 : n + m ≤ room) (h2 : (n + m) * bytes ≤ room) :
    ∃ v' S', appendV bytes k v x S = some (v', S') ∧ GrW k S0 S' v' (n + m) (cs ++ new) ∧ Same S0 S' ∧ S.nx ≤ S'.nx ∧ ∀ c, c < S.nx → blkOf v ≠ some c → S'.h.get c = S.h.get c := by
  rcases h with ⟨rfl, rfl, rfl⟩ | ⟨b, rfl, hb0, hb, hg, hc⟩
  · refine ⟨.sl S.nx 0 m m true, ⟨S.h.set S.nx (some (.cells new true k)), S.nx + 1⟩, ?_, .inr ⟨S.nx, by rw [Nat.zero_add], hS.1, by simp, ?_, by rw [Nat.zero_add]; exact hn⟩, hS.trans (Same.alloc S _), by simp, fun c hc _ => (Same.alloc S _).2 c hc⟩
    · show (osel (lenOfV x) fun j => osel (srcCells x S.h k j) fun new => appV .nilsl bytes k j new S) = _
      rw [hl, osel_some, hs, osel_some]
      show appNil bytes k m new S = _
      unfold appNil
      rw [show Nat.beq m 0 = false from Bool.eq_false_iff.2 fun e => by rw [Nat.beq_eq] at e; omega, bsel_false, Nat.ble_eq_true_of_le (by omega), bsel_true, Nat.ble_eq_true_of_le (by rw [Nat.zero_add] at h2; exact h2), bsel_true]
      rfl
    · simp only
      rw [T.get_set, if_pos rfl]
      rfl
  · refine ⟨.sl S.nx 0 (n + m) (n + m) true, ⟨(S.h.set b none).set S.nx (some (.cells (cs ++ new) true k)), S.nx + 1⟩, ?_, .inr ⟨S.nx, rfl, hS.1, by simp, ?_, by rw [List.length_append, hc, hn, Nat.add_mul]⟩, ⟨Nat.le_trans hS.1 (by simp), fun c hc => ?_⟩, by simp, fun c hc hne => ?_⟩
    · show (osel (lenOfV x) fun j => osel (srcCells x S.h k j) fun new => appV (.sl b 0 n n true) bytes k j new S) = _
      rw [hl, osel_some, hs, osel_some]
      show appSl bytes k b 0 n n true m new S = _
      unfold appSl
      have e2 : Nat.ble (n + m) n = false := by rw [Bool.eq_false_iff]; intro h; have := Nat.le_of_ble_eq_true h; omega
      rw [e2, bsel_false, Nat.ble_eq_true_of_le h1, bsel_true, Nat.ble_eq_true_of_le h2, bsel_true, hg, osel_some]
      have e3 : cut cs 0 (n * k) = some cs := by
        unfold cut
        rw [takeL_eq, dropL_eq, List.drop_zero, if_pos (by omega), List.take_of_length_le (by omega)]
      have e4 : Nat.beq (0 + n * k) (lenL cs) = true := by rw [lenL_eq, hc, Nat.beq_eq]; omega
      have e5 : Nat.beq k k = true := Nat.beq_refl k
      simp only [growB, e3, osel_some, bsel_true, e4, e5, grown, appL_eq]
    · simp only
      rw [T.get_set, if_pos rfl]
    · simp only
      have := hS.1
      rw [T.get_set, if_neg (by omega), T.get_set, if_neg (by omega)]
      exact hS.2 c hc
    · simp only
      have : c ≠ b := fun e => hne (by rw [e]; rfl)
      rw [T.get_set, if_neg (by omega), T.get_set, if_neg this]

/-! ### a slice's head, of any integers -/
theorem IsSl.slc {k : IntKind} {S : St} {v : AV} {l : List Int} (h : IsSl k S v l) {i : Nat} (hi : i < l.length) {F : Fr} {x : Opd} (hx : natOf (x.val F) = some i) : slcV (.slice 1) v none (some x) none F = some (slHead v i) := by
  rcases h with ⟨h0, _⟩ | ⟨b, off, cap, o, cs, rfl, hc, hb, hcs, hel⟩
  · subst h0; simp at hi
  · have e1 : Nat.ble cap cap = true := Nat.ble_eq_true_of_le (Nat.le_refl _)
    have e2 : Nat.ble i cap = true := Nat.ble_eq_true_of_le (by omega)
    have e3 : Nat.ble 0 i = true := Nat.ble_eq_true_of_le (Nat.zero_le _)
    have e4 : Nat.beq cap 0 = false := by rw [Bool.eq_false_iff]; intro h; rw [Nat.beq_eq] at h; omega
    simp only [slcV, slSl, bounds, optNat, osel_some, hx, e1, e2, e3, bsel_true, e4, bsel_false, Nat.sub_zero, Nat.zero_mul, Nat.add_zero, Option.isNone_none]
    cases o <;> rfl
/-! ### bytes -/
theorem ia8 {b m N i : Nat} {o : Bool} (hi : i < m) : iaddrV (.slice 1) (.sl b 0 m N o) i = some (.ptr b i) := by
  show bsel (Nat.blt i m) (some (AV.ptr b (0 + i * 1))) none = _
  rw [show Nat.blt i m = true from Nat.ble_eq_true_of_le hi, bsel_true]
  simp
end Go.Ev.Gl
