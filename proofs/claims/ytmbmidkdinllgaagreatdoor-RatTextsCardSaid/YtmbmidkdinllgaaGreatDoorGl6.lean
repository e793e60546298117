/- Contracts (6): rational numbers, the statements' tools, the law. -/
import Derived.Test.YtmbmidkdinllgaaGreatDoorGl5
open Nat (reduceEqDiff)
set_option maxHeartbeats 4000000
set_option linter.unusedSimpArgs false
set_option linter.unusedVariables false
namespace Go.Ev.Gl

/-! ## Decimal digits -/
/-- the value of a text of digits, the first one the highest -/
def decVal (s : List Nat) : Nat := s.foldl (fun x c => 10 * x + (c - 48)) 0
def Digits (s : List Nat) : Prop := ∀ c ∈ s, 48 ≤ c ∧ c ≤ 57
theorem decFold (s : List Nat) : ∀ x, s.foldl (fun x c => 10 * x + (c - 48)) x = 10 ^ s.length * x + decVal s := by
  unfold decVal
  induction s with
  | nil => intro x; simp
  | cons c s ih =>
    intro x
    simp only [List.foldl_cons, List.length_cons]
    rw [ih, ih (10 * 0 + (c - 48)), Nat.pow_succ]
    grind
theorem decVal_append (s t : List Nat) : decVal (s ++ t) = 10 ^ t.length * decVal s + decVal t := by
  unfold decVal
  rw [List.foldl_append, decFold]
  rfl
theorem decVal_nil : decVal [] = 0 := rfl
theorem decVal_one (c : Nat) : decVal [c] = c - 48 := by simp [decVal]
theorem decVal_cons (c : Nat) (s : List Nat) : decVal (c :: s) = 10 ^ s.length * (c - 48) + decVal s := by
  have := decVal_append [c] s
  rw [decVal_one] at this
  exact this
theorem decVal_lt {s : List Nat} (h : Digits s) : decVal s < 10 ^ s.length := by
  induction s with
  | nil => simp [decVal_nil]
  | cons c s ih =>
    rw [decVal_cons, List.length_cons, Nat.pow_succ]
    have h1 := ih fun x hx => h x (List.mem_cons_of_mem _ hx)
    have h2 := h c (List.mem_cons_self ..)
    have h3 : 10 ^ s.length * (c - 48) ≤ 10 ^ s.length * 9 := Nat.mul_le_mul_left _ (by omega)
    omega
theorem Digits.append {s t : List Nat} : Digits (s ++ t) ↔ Digits s ∧ Digits t := by
  unfold Digits
  constructor
  · intro h; exact ⟨fun c hc => h c (List.mem_append_left _ hc), fun c hc => h c (List.mem_append_right _ hc)⟩
  · rintro ⟨h1, h2⟩ c hc
    rcases List.mem_append.1 hc with h | h
    · exact h1 c h
    · exact h2 c h
/-- the text of a natural number -/
def IsDec (s : List Nat) (n : Nat) : Prop := Digits s ∧ s ≠ [] ∧ decVal s = n ∧ (s.head? = some 48 → s = [48])
end Go.Ev.Gl

namespace Go.Ev.Gl

/-! ## A number has one text -/
theorem IsDec.bounds {s : List Nat} {n : Nat} (h : IsDec s n) : n < 10 ^ s.length ∧ (0 < n → 10 ^ (s.length - 1) ≤ n) := by
  obtain ⟨h1, h2, rfl, h4⟩ := h
  refine ⟨decVal_lt h1, fun hp => ?_⟩
  obtain ⟨c, t, rfl⟩ : ∃ c t, s = c :: t := by cases s with | nil => exact absurd rfl h2 | cons c t => exact ⟨c, t, rfl⟩
  have hc := h1 c (List.mem_cons_self ..)
  have h48 : c ≠ 48 := fun e => by
    subst e
    have := h4 rfl
    rw [this, decVal_one] at hp
    omega
  rw [decVal_cons, List.length_cons, Nat.add_sub_cancel]
  have : 10 ^ t.length * 1 ≤ 10 ^ t.length * (c - 48) := Nat.mul_le_mul_left _ (by omega)
  omega
theorem IsDec.low {s : List Nat} {n : Nat} (h : IsDec s n) (h0 : s ≠ [48]) : 10 ^ (s.length - 1) ≤ n := by
  obtain ⟨h1, h2, rfl, h4⟩ := h
  obtain ⟨c, t, rfl⟩ : ∃ c t, s = c :: t := by cases s with | nil => exact absurd rfl h2 | cons c t => exact ⟨c, t, rfl⟩
  have hc := h1 c (List.mem_cons_self ..)
  have h48 : c ≠ 48 := fun e => by subst e; exact h0 (h4 rfl)
  rw [decVal_cons, List.length_cons, Nat.add_sub_cancel]
  have : 10 ^ t.length * 1 ≤ 10 ^ t.length * (c - 48) := Nat.mul_le_mul_left _ (by omega)
  omega
theorem digits_inj : ∀ {s t : List Nat}, Digits s → Digits t → s.length = t.length → decVal s = decVal t → s = t
  | [], [], _, _, _, _ => rfl
  | c :: s, [], _, _, h, _ => by simp at h
  | [], c :: t, _, _, h, _ => by simp at h
  | c :: s, d :: t, h1, h2, h, hv => by
    have hl : s.length = t.length := by simpa using h
    have hs : Digits s := fun x hx => h1 x (List.mem_cons_of_mem _ hx)
    have ht : Digits t := fun x hx => h2 x (List.mem_cons_of_mem _ hx)
    have a := decVal_lt hs
    have b := decVal_lt ht
    have hc := h1 c (List.mem_cons_self ..)
    have hd := h2 d (List.mem_cons_self ..)
    rw [decVal_cons, decVal_cons, ← hl] at hv
    rw [← hl] at b
    have e1 : (10 ^ s.length * (c - 48) + decVal s) / 10 ^ s.length = c - 48 := by rw [Nat.mul_add_div (Nat.pow_pos (by decide)), Nat.div_eq_of_lt a, Nat.add_zero]
    have e2 : (10 ^ s.length * (d - 48) + decVal t) / 10 ^ s.length = d - 48 := by rw [Nat.mul_add_div (Nat.pow_pos (by decide)), Nat.div_eq_of_lt b, Nat.add_zero]
    rw [hv, e2] at e1
    have hcd : c = d := by omega
    subst hcd
    rw [digits_inj hs ht hl (by omega)]
theorem isDec_inj {s t : List Nat} {n : Nat} (h1 : IsDec s n) (h2 : IsDec t n) : s = t := by
  refine digits_inj h1.1 h2.1 ?_ (by rw [h1.2.2.1, h2.2.2.1])
  have ls : s.length ≠ 0 := fun e => h1.2.1 (List.length_eq_zero_iff.1 e)
  have lt : t.length ≠ 0 := fun e => h2.2.1 (List.length_eq_zero_iff.1 e)
  have zero : ∀ {u : List Nat}, IsDec u 0 → u.length = 1 := fun {u} hu => by
    obtain ⟨c, v, rfl⟩ : ∃ c v, u = c :: v := by cases u with | nil => exact absurd rfl hu.2.1 | cons c t => exact ⟨c, t, rfl⟩
    have h3 := hu.2.2.1
    rw [decVal_cons] at h3
    have hc := hu.1 c (List.mem_cons_self ..)
    have hp : 0 < 10 ^ v.length := Nat.pow_pos (by decide)
    have : c - 48 = 0 := by
      rcases Nat.eq_zero_or_pos (c - 48) with h | h
      · exact h
      · have := Nat.mul_pos hp h; omega
    have hc48 : c = 48 := by omega
    subst hc48
    have := hu.2.2.2 rfl
    rw [this]; rfl
  rcases Nat.eq_zero_or_pos n with h0 | hp
  · subst h0; rw [zero h1, zero h2]
  · obtain ⟨a1, a2⟩ := h1.bounds
    obtain ⟨b1, b2⟩ := h2.bounds
    have a2 := a2 hp
    have b2 := b2 hp
    have p1 : s.length - 1 < t.length := (Nat.pow_lt_pow_iff_right (a := 10) (by decide)).1 (Nat.lt_of_le_of_lt a2 b1)
    have p2 : t.length - 1 < s.length := (Nat.pow_lt_pow_iff_right (a := 10) (by decide)).1 (Nat.lt_of_le_of_lt b2 a1)
    omega
end Go.Ev.Gl

namespace Go.Ev.Gl

/-! ## A text as a natural number -/
def badAt (s : List Nat) : Nat := s.findIdx fun c => decide (c < 48) || decide (57 < c)
/-- the fault of a text as a natural number -/
def natF (s : List Nat) : Int × Int :=
  if 9216 < s.length then (4, 9216) else if badAt s < s.length then (11, (badAt s : Int)) else if s = [] ∨ (1 < s.length ∧ s.head? = some 48) then (11, 0) else (0, 0)
theorem badAt_digits {s : List Nat} : ¬ badAt s < s.length ↔ Digits s := by
  unfold badAt Digits
  rw [Nat.not_lt]
  constructor
  · intro h c hc
    have := List.findIdx_eq_length.1 (Nat.le_antisymm List.findIdx_le_length h) c hc
    simp at this
    omega
  · intro h
    refine Nat.le_of_eq (Eq.symm (List.findIdx_eq_length.2 fun c hc => ?_))
    have := h c hc
    simp
    omega
theorem badAt_eq {s : List Nat} {i : Nat} (hi : i < s.length) (h1 : Digits (s.take i)) (h2 : s[i]?.getD 0 < 48 ∨ 57 < s[i]?.getD 0) : badAt s = i := by
  unfold badAt
  rw [List.findIdx_eq hi]
  rw [List.getElem?_eq_getElem hi] at h2
  refine ⟨by simpa using h2, fun j hj => ?_⟩
  have := h1 s[j] (List.mem_take_iff_getElem.2 ⟨j, by omega, rfl⟩)
  simp
  omega

/-! ## A text as a rational number -/
/-- the first number below n of a kind, n if there is none -/
def firstP (n : Nat) (P : Nat → Prop) [DecidablePred P] : Nat := (List.range n).findIdx fun i => decide (P i)
theorem firstP_eq {n : Nat} {P : Nat → Prop} [DecidablePred P] {i : Nat} (hi : i < n) (h1 : ∀ j, j < i → ¬ P j) (h2 : P i) : firstP n P = i := by
  unfold firstP
  rw [List.findIdx_eq (by simpa using hi)]
  refine ⟨by simpa using h2, fun j hj => ?_⟩
  simpa using h1 j hj
theorem firstP_not {n : Nat} {P : Nat → Prop} [DecidablePred P] : ¬ firstP n P < n ↔ ∀ j, j < n → ¬ P j := by
  constructor
  · intro h j hj hP
    have := (List.findIdx_eq_length (xs := List.range n) (p := fun i => decide (P i))).1 (Nat.le_antisymm List.findIdx_le_length (by simpa [firstP] using h)) j (by simpa using hj)
    simp [hP] at this
  · intro h
    unfold firstP
    rw [(List.findIdx_eq_length (xs := List.range n) (p := fun i => decide (P i))).2 fun j hj => by simpa using h j (by simpa using hj)]
    simp
def isOdd (c : Nat) : Prop := ¬ ((48 ≤ c ∧ c ≤ 57) ∨ c = 45 ∨ c = 47)
instance isOddDec (c : Nat) : Decidable (isOdd c) := by unfold isOdd; exact inferInstance
def at' (s : List Nat) (i : Nat) : Nat := s[i]?.getD 0
def oddAt (s : List Nat) : Nat := firstP s.length fun i => isOdd (at' s i)
def slashAt (s : List Nat) : Nat := firstP s.length fun i => at' s i = 47
def isMis (s : List Nat) (i : Nat) : Prop := (at' s i = 45 ∧ 0 < i) ∨ (at' s i = 47 ∧ ∃ j, j < i ∧ at' s j = 47)
instance isMisDec (s : List Nat) (i : Nat) : Decidable (isMis s i) := by unfold isMis; exact inferInstance
def misAt (s : List Nat) : Nat := firstP s.length (isMis s)
def above (s : List Nat) : List Nat := s.take (slashAt s)
def below (s : List Nat) : List Nat := s.drop (slashAt s + 1)
def negIn (s : List Nat) : Bool := (above s).head? == some 45
def digitsIn (s : List Nat) : List Nat := (above s).drop (if negIn s then 1 else 0)
def ratF (s : List Nat) : Int × Int :=
  if 20000 < s.length then (4, 20000) else if oddAt s < s.length then (11, (oddAt s : Int)) else if misAt s < s.length then (11, (misAt s : Int)) else
  if (natF (digitsIn s)).1 ≠ 0 then ((natF (digitsIn s)).1, (natF (digitsIn s)).2 + (if negIn s then 1 else 0)) else
  if slashAt s < s.length ∧ (natF (below s)).1 ≠ 0 then ((natF (below s)).1, (natF (below s)).2 + ((slashAt s : Int) + 1)) else
  if slashAt s < s.length ∧ decVal (below s) = 0 then (6, (slashAt s : Int) + 1) else (0, 0)
def numIn (s : List Nat) : Nat := decVal (digitsIn s)
def denIn (s : List Nat) : Nat := if slashAt s < s.length then decVal (below s) else 1

theorem odd_not {s : List Nat} (h : ∀ j, j < s.length → ¬ isOdd (at' s j)) : ¬ oddAt s < s.length := firstP_not.2 h
theorem mis_not {s : List Nat} (h : ∀ j, j < s.length → ¬ isMis s j) : ¬ misAt s < s.length := firstP_not.2 h
theorem slash_not {s : List Nat} (h : ∀ j, j < s.length → ¬ at' s j = 47) : ¬ slashAt s < s.length := firstP_not.2 h
theorem at_mem {s : List Nat} {i : Nat} (h : i < s.length) : at' s i ∈ s := by unfold at'; rw [List.getElem?_eq_getElem h]; exact List.getElem_mem h
def sgT (neg : Bool) : List Nat := if neg then [45] else []
theorem sgT_len (neg : Bool) : (sgT neg).length = if neg then 1 else 0 := by cases neg <;> rfl
end Go.Ev.Gl

namespace Go.Ev.Gl
variable {fns : T AFn}

/-! ## Bytes in blocks -/
def cells8 (l : List Nat) : List AV := l.map fun x => AV.int .u8 ((x : Nat) : Int)
theorem cells8_length (l : List Nat) : (cells8 l).length = l.length := by simp [cells8]
theorem st8 {S : St} {b p w : Nat} {l : List Nat} {o : Bool} {sz : Nat} (h : S.h.get b = some (.cells (cells8 l) o sz)) (hp : p < l.length) :
    xStV (.ptr b p) 1 [.int .u8 ((w : Nat) : Int)] S = some (.undef, ⟨S.h.set b (some (.cells (cells8 (l.set p w)) o sz)), S.nx⟩) := by
  have hput : put (cells8 l) p [AV.int .u8 ((w : Nat) : Int)] = some (cells8 (l.set p w)) := by
    rw [put_eq, if_pos (by rw [cells8_length]; simp; omega)]
    congr 1
    unfold cells8
    rw [List.map_set, List.set_eq_take_append_cons_drop, if_pos (by simp; omega)]
    simp
  simp only [xStV, storeN, h, osel_some, storeB, hput]
  rfl
theorem ld8 {S : St} {b p : Nat} {l : List Nat} {o : Bool} {sz : Nat} (h : S.h.get b = some (.cells (cells8 l) o sz)) (hp : p < l.length) : qLdV (.ptr b p) false 1 S.h = some (.int .u8 ((l[p]?.getD 0 : Nat) : Int)) := by
  simp only [qLdV, loadV, bsel_false, load1, cellsAt, h, osel_some, cellsOfB, nth_eq]
  simp [cells8, hp]
theorem cells8_zeros (n : Nat) : repeatL [AV.int .u8 0] n = cells8 (List.replicate n 0) := by rw [repeatL_one]; simp [cells8]
theorem bytes8 : ∀ {l : List Nat}, (∀ x ∈ l, x ≤ 255) → bytesOf (cells8 l) = some l
  | [], _ => rfl
  | x :: l, h => by
    show bsel (Nat.ble x 255) (osel (bytesOf (cells8 l)) fun r => some (x :: r)) none = _
    rw [Nat.ble_eq_true_of_le (h x (List.mem_cons_self ..)), bsel_true, bytes8 fun y hy => h y (List.mem_cons_of_mem _ hy)]
    rfl
end Go.Ev.Gl

namespace Go.Ev.Gl
variable {fns : T AFn}

/-! ## The text of a natural number -/
def tabD : List AV := cells8 [48, 49, 50, 51, 52, 53, 54, 55, 56, 57]
def DigT (S : St) : Prop := S.h.get 0 = some (.ro tabD) ∧ 0 < S.nx
theorem DigT.same {S S' : St} (h : DigT S) (hs : Same S S') : DigT S' := ⟨by rw [hs.2 _ h.2]; exact h.1, Nat.lt_of_lt_of_le h.2 hs.1⟩
theorem dig_ia {k : Nat} (hk : k < 10) : iaddrV (.arr 10 1) (.ptr 0 0) k = some (.ptr 0 k) := by
  show bsel (Nat.blt k 10) (some (AV.ptr 0 (0 + k * 1))) none = _
  rw [show Nat.blt k 10 = true from Nat.ble_eq_true_of_le hk, bsel_true]
  simp
theorem dig_ld {S : St} (h : DigT S) {k : Nat} (hk : k < 10) : qLdV (.ptr 0 k) false 1 S.h = some (.int .u8 ((48 + k : Nat) : Int)) := by
  simp only [qLdV, loadV, bsel_false, load1, cellsAt, h.1, osel_some, cellsOfB, nth_eq, tabD]
  rcases (by omega : k = 0 ∨ k = 1 ∨ k = 2 ∨ k = 3 ∨ k = 4 ∨ k = 5 ∨ k = 6 ∨ k = 7 ∨ k = 8 ∨ k = 9) with rfl | rfl | rfl | rfl | rfl | rfl | rfl | rfl | rfl | rfl <;> rfl

/-- behind i limbs, k digits of the next -/
def TextJ (S0 S : St) (v : AV) (l : List Nat) (b i x0 : Nat) (D : List Nat) (k : Nat) (A : Act') (S' : St) : Prop :=
  A.inr = false ∧ ∃ (j : Nat) (E : List Nat), j + k = 9 ∧ E.length = j ∧ Digits E ∧ decVal E = x0 % 10 ^ j ∧ tmpV 0 A.F = v ∧ tmpV 22 A.F = v ∧ tmpV 23 A.F = .int .i64 ((l.length : Nat) : Int) ∧ tmpV 24 A.F = .int .i64 (i : Int) ∧ tmpV 5 A.F = .sl b 0 (9 * l.length) (9 * l.length) false ∧
    tmpV 8 A.F = .int .i64 ((9 * l.length : Nat) - (9 * i : Nat) - 1 : Int) ∧ tmpV 7 A.F = .int .u32 ((x0 / 10 ^ j : Nat) : Int) ∧ tmpV 35 A.F = .int .i64 (j : Int) ∧ Same S0 S' ∧ S.nx ≤ S'.nx ∧ S'.h.get b = some (.cells (cells8 (List.replicate (9 * l.length - 9 * i - j) 0 ++ (E ++ D))) false 0)
def TextI (S0 S : St) (v : AV) (l : List Nat) (b : Nat) (k : Nat) (A : Act') (S' : St) : Prop :=
  A.inr = false ∧ ∃ (i : Nat) (D : List Nat), i + k = l.length ∧ D.length = 9 * i ∧ Digits D ∧ decVal D = val (l.take i) ∧ tmpV 0 A.F = v ∧ tmpV 22 A.F = v ∧ tmpV 23 A.F = .int .i64 ((l.length : Nat) : Int) ∧ tmpV 24 A.F = .int .i64 (i : Int) ∧ tmpV 5 A.F = .sl b 0 (9 * l.length) (9 * l.length) false ∧
    Same S0 S' ∧ S.nx ≤ S'.nx ∧ S'.h.get b = some (.cells (cells8 (List.replicate (9 * l.length - 9 * i) 0 ++ D)) false 0)
end Go.Ev.Gl

namespace Go.Ev.Gl
variable {fns : T AFn}

theorem rem10 (t : Nat) : binV .rem (.p .int) (.int .u32 ((t : Nat) : Int)) (.int .u32 10) = some (.int .u32 ((t % 10 : Nat) : Int)) := bin_rem_nat (.p .int) .u32 (t := t) (d := 10) (by decide)
theorem quo10 {t : Nat} (ht : t ≤ 4294967295) : binV .quo (.p .int) (.int .u32 ((t : Nat) : Int)) (.int .u32 10) = some (.int .u32 ((t / 10 : Nat) : Int)) := by
  show bsel (Nat.beq 10 0) none (some (AV.int .u32 (nat .u32 (Nat.div t 10)))) = _
  have h1 : Nat.div t 10 ≤ 4294967295 := Nat.le_trans (Nat.div_le_self ..) ht
  show some (AV.int .u32 (bsel (Nat.ble (Nat.div t 10) 4294967295) (.ofNat (Nat.div t 10)) _)) = _
  rw [Nat.ble_eq_true_of_le h1, bsel_true]
  rfl
theorem pow9 (i : Nat) : 10 ^ (9 * i) = B ^ i := by rw [Nat.pow_mul]; rfl

/-- the code of the loop of a limb's digits -/
noncomputable def textC : AC :=
(.block 2 (.loop (.seq (.reg [⟨(some 36),(.q (.bin .lss (.p .int) (.t 35) (.c (.int .i64 (.ofNat 9))))),none,0⟩])
(.seq (.cond (.t 36) .skip (.exit 2))
(.seq (.block 3 (.seq (.reg [⟨(some 37),(.q (.mv (.t 35))),none,0⟩,
⟨(some 9),(.q (.mv (.t 37))),none,0⟩])
(.seq (.reg [⟨(some 38),(.q (.mv (.t 5))),none,0⟩,
⟨(some 39),(.q (.mv (.t 8))),none,0⟩,
⟨(some 40),(.q (.mv (.t 9))),none,0⟩,
⟨(some 41),(.q (.bin .sub (.p .int) (.t 39) (.t 40))),none,0⟩,
⟨(some 42),(.q (.mv (.t 7))),none,0⟩,
⟨(some 43),(.q (.bin .rem (.p .int) (.t 42) (.c (.int .u32 (.ofNat 10))))),none,0⟩,
⟨(some 44),(.q (.iaddr (.arr 10 1) (.c (.ptr 0 0)) (.t 43))),none,0⟩,
⟨(some 45),(.q (.ld false 1 (.t 44))),none,0⟩,
⟨(some 46),(.q (.iaddr (.slice 1) (.t 38) (.t 41))),none,0⟩,
⟨none,(.x (.st 1 (.t 46) (.t 45))),none,0⟩])
(.reg [⟨(some 47),(.q (.mv (.t 7))),none,0⟩,
⟨(some 48),(.q (.bin .quo (.p .int) (.t 47) (.c (.int .u32 (.ofNat 10))))),none,0⟩,
⟨(some 7),(.q (.mv (.t 48))),none,0⟩]))))
(.reg [⟨(some 49),(.q (.bin .add (.p .int) (.t 35) (.c (.int .i64 (.ofNat 1))))),none,0⟩,
⟨(some 35),(.q (.mv (.t 49))),none,0⟩]))))))
/-- one limb's digits -/
theorem text_in {S0 S : St} {v : AV} {l D : List Nat} {b i x0 : Nat} {F : Fr} {X : St} {Q : Out → Act' → St → Prop} {c : AC} (hD : D.length = 9 * i) (hT : DigT S0) (hlen : l.length ≤ 1024) (hi : i < l.length) (hx : x0 < B) (hb0 : S0.nx ≤ b) (hbS : b < S.nx) (hd : Digits D)
    (h0 : TextJ S0 S v l b i x0 D 9 ⟨F, false⟩ X) (hc : c = textC) (hQ : ∀ F' X', TextJ S0 S v l b i x0 D 0 ⟨F', false⟩ X' → Q .normal ⟨F', false⟩ X') : wpc fns c ⟨F, false⟩ X Q := by
  have hB : B = 1000000000 := rfl
  subst hc
  refine wpc_block (wpc_loop (TextJ S0 S v l b i x0 D) ?_ 9 _ _ h0)
  clear h0
  rintro k ⟨F, inr⟩ X ⟨q0, j, E, hjk, hE, hdE, hvE, p0, p22, p23, p24, p5, p8, p7, p35, hS, hn, hblk⟩
  simp only at q0 p0 p22 p23 p24 p5 p8 p7 p35
  subst q0
  refine wsr ?_
  simp only [↓stU, stD, reduceEqDiff, ↓reduceIte, p35]
  by_cases hj : j < 9
  · refine wpc_seq (wpc_yes (by simp only [↓stU, stD, reduceEqDiff, ↓reduceIte, decide_eq_true (show (j : Int) < 9 by omega)]) (wpc_skip ?_))
    simp only [↓stU, stD, reduceEqDiff, ↓reduceIte]
    refine wpc_seq (wpc_block (wpc_seq (wpc_reg ?_)))
    simp only [↓stU, stD, reduceEqDiff, ↓reduceIte, p35]
    have hxb : x0 / 10 ^ j ≤ 999999999 := Nat.le_trans (Nat.div_le_self ..) (by omega)
    have hrem := rem10 (x0 / 10 ^ j)
    have hquo := quo10 (t := x0 / 10 ^ j) (by omega)
    have hm : x0 / 10 ^ j % 10 < 10 := Nat.mod_lt _ (by decide)
    have hmod : x0 % 10 ^ (j + 1) = x0 % 10 ^ j + 10 ^ j * (x0 / 10 ^ j % 10) := Nat.mod_pow_succ
    have hdiv : x0 / 10 ^ j / 10 = x0 / 10 ^ (j + 1) := by rw [Nat.div_div_eq_div_mul, Nat.pow_succ]
    obtain ⟨pp, hpp⟩ : ∃ pp, 9 * l.length - 9 * i - j = pp + 1 := ⟨9 * l.length - 9 * i - j - 1, by omega⟩
    have hw : ((9 * l.length : Nat) : Int) - ((9 * i : Nat) : Int) - 1 - (j : Int) = (pp : Int) := by omega
    have w1 : IntKind.i64.wrap (((9 * l.length : Nat) : Int) - ((9 * i : Nat) : Int) - 1 - (j : Int)) = (pp : Int) := by rw [wrap_i64 (by omega) (by omega)]; exact hw
    have hia := own_ia (b := b) (n := 9 * l.length) (cap := 9 * l.length) (i := pp) (o := false) (by omega)
    have hTX := hT.same hS
    refine wsr ?_
    have hst := st8 (w := 48 + x0 / 10 ^ j % 10) hblk (p := pp) (by simp; omega)
    rw [hpp, set_low] at hst
    simp only [↓stU, stD, reduceEqDiff, ↓reduceIte, p5, p7, p8, w1, hrem, natOf_cast, dig_ia hm, dig_ld hTX hm, hia]
    refine wpo_x (fun call => by simp only [↓stU, stD, reduceEqDiff, ↓reduceIte, evX_st, cells_int]; exact hst) ?_
    simp only [↓stU, stD, reduceEqDiff, ↓reduceIte]
    refine wpc_reg ?_
    simp only [↓stU, stD, reduceEqDiff, ↓reduceIte, p7, hquo]
    refine wpc_reg ?_
    have w2 : IntKind.i64.wrap ((j : Int) + 1) = ((j + 1 : Nat) : Int) := by rw [wrap_i64 (by omega) (by omega)]; omega
    simp only [↓stU, stD, reduceEqDiff, ↓reduceIte, p35, w2]
    refine ⟨k - 1, by omega, rfl, j + 1, (48 + x0 / 10 ^ j % 10) :: E, by omega, by simp [hE], ?_, ?_, by simp only [↓stU, stD, reduceEqDiff, ↓reduceIte, p0], by simp only [↓stU, stD, reduceEqDiff, ↓reduceIte, p22], by simp only [↓stU, stD, reduceEqDiff, ↓reduceIte, p23], by simp only [↓stU, stD, reduceEqDiff, ↓reduceIte, p24], by simp only [↓stU, stD, reduceEqDiff, ↓reduceIte, p5], by simp only [↓stU, stD, reduceEqDiff, ↓reduceIte, p8], by simp only [↓stU, stD, reduceEqDiff, ↓reduceIte, hdiv], by simp only [↓stU, stD, reduceEqDiff, ↓reduceIte], hS.put hb0 _, hn, ?_⟩
    · intro c hc
      rcases List.mem_cons.1 hc with h | h
      · omega
      · exact hdE c h
    · rw [decVal_cons, hE, hvE, hmod]
      rw [show 48 + x0 / 10 ^ j % 10 - 48 = x0 / 10 ^ j % 10 by omega]
      omega
    · simp only
      rw [T.get_set, if_pos rfl, show 9 * l.length - 9 * i - (j + 1) = pp by omega]
      simp
  · refine wpc_seq (wpc_non (by simp only [↓stU, stD, reduceEqDiff, ↓reduceIte, decide_eq_false (show ¬ (j : Int) < 9 by omega)]) (wpc_exit ?_))
    simp only [↓stU, stD, reduceEqDiff, ↓reduceIte]
    exact hQ _ _ ⟨rfl, j, E, by omega, hE, hdE, hvE, by simp only [↓stU, stD, reduceEqDiff, ↓reduceIte, p0], by simp only [↓stU, stD, reduceEqDiff, ↓reduceIte, p22], by simp only [↓stU, stD, reduceEqDiff, ↓reduceIte, p23], by simp only [↓stU, stD, reduceEqDiff, ↓reduceIte, p24], by simp only [↓stU, stD, reduceEqDiff, ↓reduceIte, p5], by simp only [↓stU, stD, reduceEqDiff, ↓reduceIte, p8], by simp only [↓stU, stD, reduceEqDiff, ↓reduceIte, p7], by simp only [↓stU, stD, reduceEqDiff, ↓reduceIte, p35], hS, hn, hblk⟩
end Go.Ev.Gl

namespace Go.Ev.Gl
variable {fns : T AFn}

def StripI (S0 : St) (b n N : Nat) (k : Nat) (A : Act') (S' : St) : Prop :=
  A.inr = false ∧ ∃ (off : Nat) (s pre : List Nat), s.length = k ∧ pre.length = off ∧ off + k = N ∧ Digits s ∧ decVal s = n ∧ tmpV 5 A.F = .sl b off k k false ∧ Same S0 S' ∧ b < S'.nx ∧ S'.h.get b = some (.cells (cells8 (pre ++ s)) false 0)

theorem ptext_spec {S : St} {v : AV} {n : Nat} (H : Has fns) (hT : DigT S) (h : NatIs S v n) (hn : n < B ^ 1024) : wpf fns (.fn 18 [] []) [v] S fun r S' => ∃ s, r = .tup [.str s, .int .i64 0] ∧ IsDec s n ∧ s.length ≤ 9216 ∧ Same S S' := by
  have hB : B = 1000000000 := rfl
  obtain ⟨l, hl, hln, rfl⟩ := h
  have hlen : l.length ≤ 1024 := len_le hln hn
  refine wpf_fn H.f18 (by simp) ?_
  simp only [↓stU, stD, reduceEqDiff, ↓reduceIte]
  refine wsr ?_
  simp only [↓stU, stD, reduceEqDiff, ↓reduceIte]
  refine wss ?_
  simp only [↓stU, stD, reduceEqDiff, ↓reduceIte]
  refine wpo_call ?_
  try simp only [↓stU, stD, reduceEqDiff, ↓reduceIte]
  refine wpf_mono (natCheck_spec H hl) ?_
  rintro _ S1 ⟨rfl, hS1⟩
  rw [hS1, chk_zero.2 ⟨hlen, hln⟩]
  try simp only [↓stU, stD, reduceEqDiff, ↓reduceIte]
  refine wsr ?_
  simp only [↓stU, stD, reduceEqDiff, ↓reduceIte]
  refine wpc_non (by simp only [↓stU, stD, reduceEqDiff, ↓reduceIte]; rfl) (wpc_skip ?_)
  try simp only [↓stU, stD, reduceEqDiff, ↓reduceIte]
  refine wss ?_
  simp only [↓stU, stD, reduceEqDiff, ↓reduceIte, hl.len]
  by_cases h0 : l.length = 0
  · refine wpc_yes (by simp only [↓stU, stD, reduceEqDiff, ↓reduceIte, decide_eq_true (show ((l.length : Nat) : Int) = 0 by omega)]) ?_
    refine wsr ?_
    simp only [↓stU, stD, reduceEqDiff, ↓reduceIte]
    refine wpc_ret ?_
    simp only [↓stU, stD, reduceEqDiff, ↓reduceIte]
    have : l = [] := List.length_eq_zero_iff.1 h0
    subst this
    exact ⟨_, rfl, ⟨fun c hc => (by simp at hc; omega), by simp, rfl, fun _ => rfl⟩, by simp, Same.refl S⟩
  refine wpc_non (by simp only [↓stU, stD, reduceEqDiff, ↓reduceIte, decide_eq_false (show ¬ ((l.length : Nat) : Int) = 0 by omega)]) (wpc_skip ?_)
  try simp only [↓stU, stD, reduceEqDiff, ↓reduceIte]
  have w0 : IntKind.i64.wrap (9 * ((l.length : Nat) : Int)) = ((9 * l.length : Nat) : Int) := by rw [wrap_i64 (by omega) (by omega)]; omega
  refine wsr ?_
  simp only [↓stU, stD, reduceEqDiff, ↓reduceIte, hl.len, w0]
  refine wpo_al (evA_mk (n := 9 * l.length) (by simp only [↓stU, stD, reduceEqDiff, ↓reduceIte, natOf_cast]) (by simp only [↓stU, stD, reduceEqDiff, ↓reduceIte, natOf_cast]) (by unfold room; omega) (by unfold room; omega)) ?_
  intro S2 s2 n2 g2
  simp only [↓stU, stD, reduceEqDiff, ↓reduceIte]
  refine wss ?_
  simp only [↓stU, stD, reduceEqDiff, ↓reduceIte, hl.len]
  refine wpc_mono (Q := fun o A' X => o = .normal ∧ TextI S S2 v l S.nx 0 A' X) (wpc_block (wpc_loop (TextI S S2 v l S.nx) ?_ l.length _ _ ⟨rfl, 0, [], by omega, rfl, fun c hc => (by cases hc), by simp [decVal_nil, val_nil], by simp only [↓stU, stD, reduceEqDiff, ↓reduceIte], by simp only [↓stU, stD, reduceEqDiff, ↓reduceIte], by simp only [↓stU, stD, reduceEqDiff, ↓reduceIte], by simp only [↓stU, stD, reduceEqDiff, ↓reduceIte], by simp only [↓stU, stD, reduceEqDiff, ↓reduceIte], s2, Nat.le_refl _, by rw [g2, cells8_zeros]; simp⟩)) ?_
  · rintro k ⟨F, inr⟩ X ⟨q0, i, D, hik, hD, hdD, hvD, p0, p22, p23, p24, p5, hS, hnx, hblk⟩
    simp only at q0 p0 p22 p23 p24 p5
    subst q0
    refine wsr ?_
    simp only [↓stU, stD, reduceEqDiff, ↓reduceIte, p23, p24]
    by_cases hi : i < l.length
    · refine wpc_seq (wpc_yes (by simp only [↓stU, stD, reduceEqDiff, ↓reduceIte, decide_eq_true (show (i : Int) < ((l.length : Nat) : Int) by omega)]) (wpc_skip ?_))
      simp only [↓stU, stD, reduceEqDiff, ↓reduceIte]
      have hlX := hl.same hS
      have hld := hlX.ld hi
      rw [List.getD_eq_getElem?_getD] at hld
      have hx := getD_lt hln.1 i
      have htk := val_take_get l i
      generalize l[i]?.getD 0 = x0 at *
      have w1 : IntKind.i64.wrap (9 * (i : Int)) = ((9 * i : Nat) : Int) := by rw [wrap_i64 (by omega) (by omega)]; omega
      have w2 : IntKind.i64.wrap (((9 * l.length : Nat) : Int) - ((9 * i : Nat) : Int)) = ((9 * l.length : Nat) : Int) - ((9 * i : Nat) : Int) := wrap_i64 (by omega) (by omega)
      have w3 : IntKind.i64.wrap (((9 * l.length : Nat) : Int) - ((9 * i : Nat) : Int) - 1) = ((9 * l.length : Nat) : Int) - ((9 * i : Nat) : Int) - 1 := wrap_i64 (by omega) (by omega)
      refine wpc_seq (wpc_block (wpc_seq (wpc_reg ?_)))
      simp only [↓stU, stD, reduceEqDiff, ↓reduceIte, p22, p24, natOf_cast, hl.iaddr hi, hld]
      refine wsr ?_
      have hls : lenSlV (.sl S.nx 0 (9 * l.length) (9 * l.length) false) = some (.int .i64 ((9 * l.length : Nat) : Int)) := rfl
      simp only [↓stU, stD, reduceEqDiff, ↓reduceIte, p5, hls, w1, w2, w3]
      refine wsr ?_
      simp only [↓stU, stD, reduceEqDiff, ↓reduceIte]
      refine text_in (S0 := S) (S := S2) (v := v) (b := S.nx) (x0 := x0) hD hT hlen hi hx (Nat.le_refl _) (by omega) hdD ⟨rfl, 0, [], by omega, rfl, fun c hc => (by cases hc), by simp [decVal_nil, Nat.mod_one], by simp only [↓stU, stD, reduceEqDiff, ↓reduceIte, p0], by simp only [↓stU, stD, reduceEqDiff, ↓reduceIte, p22], by simp only [↓stU, stD, reduceEqDiff, ↓reduceIte, p23], by simp only [↓stU, stD, reduceEqDiff, ↓reduceIte, p24], by simp only [↓stU, stD, reduceEqDiff, ↓reduceIte, p5], by simp only [↓stU, stD, reduceEqDiff, ↓reduceIte], by simp only [↓stU, stD, reduceEqDiff, ↓reduceIte, Nat.pow_zero, Nat.div_one], by simp only [↓stU, stD, reduceEqDiff, ↓reduceIte], hS, hnx, by rw [hblk]; simp⟩ rfl ?_
      rintro F' X' ⟨_, j, E, hj, hE, hdE, hvE, p0, p22, p23, p24, p5, p8, p7, p35, hS, hnx, hblk⟩
      simp only at p0 p22 p23 p24 p5
      have hj9 : j = 9 := by omega
      subst hj9
      try simp only [↓stU, stD, reduceEqDiff, ↓reduceIte]
      refine wpc_reg ?_
      have w4 : IntKind.i64.wrap ((i : Int) + 1) = ((i + 1 : Nat) : Int) := by rw [wrap_i64 (by omega) (by omega)]; omega
      simp only [↓stU, stD, reduceEqDiff, ↓reduceIte, p24, w4]
      refine ⟨k - 1, by omega, rfl, i + 1, E ++ D, by omega, by simp [hE, hD]; omega, Digits.append.2 ⟨hdE, hdD⟩, ?_, by simp only [↓stU, stD, reduceEqDiff, ↓reduceIte, p0], by simp only [↓stU, stD, reduceEqDiff, ↓reduceIte, p22], by simp only [↓stU, stD, reduceEqDiff, ↓reduceIte, p23], by simp only [↓stU, stD, reduceEqDiff, ↓reduceIte], by simp only [↓stU, stD, reduceEqDiff, ↓reduceIte, p5], hS, hnx, ?_⟩
      · rw [decVal_append, hvE, hvD, hD, pow9, htk, show (10 : Nat) ^ 9 = B from rfl, Nat.mod_eq_of_lt hx]
        omega
      · rw [hblk, show 9 * l.length - 9 * i - 9 = 9 * l.length - 9 * (i + 1) by omega]
    · refine wpc_seq (wpc_non (by simp only [↓stU, stD, reduceEqDiff, ↓reduceIte, decide_eq_false (show ¬ (i : Int) < ((l.length : Nat) : Int) by omega)]) (wpc_exit ?_))
      simp only [↓stU, stD, reduceEqDiff, ↓reduceIte]
      exact ⟨rfl, i, D, by omega, hD, hdD, hvD, by simp only [↓stU, stD, reduceEqDiff, ↓reduceIte, p0], by simp only [↓stU, stD, reduceEqDiff, ↓reduceIte, p22], by simp only [↓stU, stD, reduceEqDiff, ↓reduceIte, p23], by simp only [↓stU, stD, reduceEqDiff, ↓reduceIte, p24], by simp only [↓stU, stD, reduceEqDiff, ↓reduceIte, p5], hS, hnx, hblk⟩
  rintro o ⟨F, inr⟩ X ⟨rfl, q0, i, D, hik, hD, hdD, hvD, p0, p22, p23, p24, p5, hS, hnx, hblk⟩
  simp only at q0 p5
  subst q0
  have hil : i = l.length := by omega
  subst hil
  rw [List.take_length] at hvD
  have hpos : 0 < val l := by
    rcases Nat.eq_zero_or_pos (val l) with h | h
    · rw [norm_zero hln] at h; subst h; simp at h0
    · exact h
  try simp only [↓stU, stD, reduceEqDiff, ↓reduceIte]
  refine wpc_seq (wpc_block (wpc_loop (StripI S S.nx (val l) (9 * l.length)) ?_ (9 * l.length) _ _ ⟨rfl, 0, D, [], hD, rfl, by omega, hdD, hvD, p5, hS, by omega, by rw [hblk]; simp⟩))
  rintro k ⟨F, inr⟩ Y ⟨q0, off, s, pre, hs, hpre, hoff, hds, hvs, p5, hS, hbY, hblk⟩
  simp only at q0 p5
  subst q0
  have hTY := hT.same hS
  have hk0 : 0 < k := by
    rcases Nat.eq_zero_or_pos k with h | h
    · rw [h, List.length_eq_zero_iff] at hs; subst hs; rw [decVal_nil] at hvs; omega
    · exact h
  obtain ⟨c, t, rfl⟩ : ∃ c t, s = c :: t := by
    cases s with
    | nil => simp at hs; omega
    | cons c t => exact ⟨c, t, rfl⟩
  have hld := ld8 hblk (p := off) (by simp; omega)
  rw [show (pre ++ c :: t)[off]?.getD 0 = c by rw [← hpre]; simp] at hld
  have hia : iaddrV (.slice 1) (.sl S.nx off k k false) 0 = some (.ptr S.nx off) := by rw [iaddr_own hk0]; simp
  have hda := dig_ia (k := 0) (by decide)
  have hdl := dig_ld hTY (k := 0) (by decide)
  refine wpc_seq (wpc_seq (wpc_drq ?_))
  simp only [↓stU, stD, reduceEqDiff, ↓reduceIte, ↓stV, stW, Nat.reduceAdd, p5, nat0, hia, hld, hda, hdl]
  by_cases hc : c = 48
  · subst hc
    have ht : t ≠ [] := fun e => by subst e; simp [decVal] at hvs; omega
    have htl := List.length_pos_iff.2 ht
    rw [List.length_cons] at hs
    refine wpc_yes (by simp only [↓stU, stD, reduceEqDiff, ↓reduceIte, ↓stV, stW, Nat.reduceAdd]; rfl) (wpc_skip ?_)
    try simp only [↓stU, stD, reduceEqDiff, ↓reduceIte, ↓stV, stW, Nat.reduceAdd]
    refine wpc_block (wpc_reg ?_)
    have hsl : ∀ F : Fr, slcV (.slice 1) (.sl S.nx off k k false) (some (.c (.int .i64 1))) none none F = some (.sl S.nx (off + 1 * 1) (k - 1) (k - 1) false) := fun F => slc_tail (i := 1) rfl (by omega) (Nat.le_refl _) (by omega)
    simp only [↓stU, stD, reduceEqDiff, ↓reduceIte, ↓stV, stW, Nat.reduceAdd, p5, hsl]
    refine ⟨k - 1, by omega, rfl, off + 1, t, pre ++ [48], by omega, by simp [hpre], by omega, fun x hx => hds x (List.mem_cons_of_mem _ hx), ?_, by simp only [↓stU, stD, reduceEqDiff, ↓reduceIte, ↓stV, stW, Nat.reduceAdd], hS.trans (Same.nx Y _), Nat.lt_of_lt_of_le hbY (Nat.le_add_right _ _), by simp only; rw [hblk]; simp⟩
    rw [← hvs, decVal_cons]
    simp
  · have h48 := hds c (List.mem_cons_self ..)
    refine wpc_non (by simp only [↓stU, stD, reduceEqDiff, ↓reduceIte, ↓stV, stW, Nat.reduceAdd, decide_eq_false (show ¬ ((c : Nat) : Int) = 48 by omega)]) (wpc_exit ?_)
    try simp only [↓stU, stD, reduceEqDiff, ↓reduceIte, ↓stV, stW, Nat.reduceAdd]
    have hstr : convV .bytesToStr (.sl S.nx off k k false) Y.h = some (.str (c :: t)) := by
      show (osel (osel (cellsAt Y.h S.nx) fun cs => cut cs off k) fun cs => osel (bytesOf cs) fun s => some (AV.str s)) = _
      unfold cellsAt
      rw [hblk, osel_some]
      show (osel (osel (some (cells8 (pre ++ c :: t))) fun cs => cut cs off k) _) = _
      rw [osel_some]
      have hcut : cut (cells8 (pre ++ c :: t)) off k = some (cells8 (c :: t)) := by
        unfold cut
        rw [takeL_eq, dropL_eq]
        have e : (cells8 (pre ++ c :: t)).drop off = cells8 (c :: t) := by
          unfold cells8
          rw [List.map_append, List.drop_left' (by rw [List.length_map]; exact hpre)]
        rw [e, if_pos (by rw [cells8_length]; omega), List.take_of_length_le (by rw [cells8_length]; omega)]
      rw [hcut, osel_some, bytes8 fun x hx => by have := hds x hx; omega, osel_some]
    refine wsr ?_
    simp only [↓stU, stD, reduceEqDiff, ↓reduceIte, ↓stV, stW, Nat.reduceAdd, p5, hstr]
    refine wpc_ret ?_
    simp only [↓stU, stD, reduceEqDiff, ↓reduceIte, ↓stV, stW, Nat.reduceAdd]
    exact ⟨_, rfl, ⟨hds, by simp, hvs, fun h => by simp at h; exact absurd h hc⟩, by omega, hS.trans (Same.nx Y _)⟩
end Go.Ev.Gl

namespace Go.Ev.Gl
variable {fns : T AFn}

/-! ## Texts as values -/
theorem evQ_idxStr (x ix : Opd) (F : Fr) (h : T AB) : evQ (.idxStr x ix) F h = osel (natOf (ix.val F)) fun i => idxStrV (x.val F) i := rfl
theorem evQ_lenStr (x : Opd) (F : Fr) (h : T AB) : evQ (.lenStr x) F h = lenStrV (x.val F) := rfl
theorem lenStr_eq (s : List Nat) : lenStrV (.str s) = some (.int .i64 ((s.length : Nat) : Int)) := by
  show some (AV.int .i64 (.ofNat (lenL s))) = _
  rw [lenL_eq]; rfl
theorem idxStr_eq {s : List Nat} {i : Nat} (h : i < s.length) : idxStrV (.str s) i = some (.int .u8 ((s[i]?.getD 0 : Nat) : Int)) := by
  show (osel (nth s i) fun b => some (AV.int .u8 (.ofNat b))) = _
  rw [nth_eq, List.getElem?_eq_getElem h, osel_some]
  rfl
theorem isLoad_lenStr (x : Opd) : isLoad (.lenStr x) = false := rfl
theorem ld2a {h : T AB} {b : Nat} {x y : AV} {o : Bool} {s : Nat} (hb : h.get b = some (.cells [x, y] o s)) : qLdV (.ptr b 0) true 2 h = some (.agg [x, y]) := by
  simp only [qLdV, loadV, bsel_true, loadN, cellsAt, hb, osel_some, cellsOfB]; rfl
theorem evQ_f2 {z0 z1 : AV} {x y : Opd} {F : Fr} {h : T AB} (h1 : (x.val F).cells = some [x.val F]) (h2 : (y.val F).cells = some [y.val F]) : evQ (.build [z0, z1] [(0, 1, x), (1, 1, y)]) F h = some (.agg [x.val F, y.val F]) := by
  show (osel (fillP [z0, z1] (partsV F [(0, 1, x), (1, 1, y)])) fun cs => some (AV.agg cs)) = _
  simp only [partsV, fillP, h1, h2, osel_some]
  rfl
theorem evQ_f1 {z0 z1 : AV} {x : Opd} {F : Fr} {h : T AB} (h1 : (x.val F).cells = some [x.val F]) : evQ (.build [z0, z1] [(0, 1, x)]) F h = some (.agg [x.val F, z1]) := by
  show (osel (fillP [z0, z1] (partsV F [(0, 1, x)])) fun cs => some (AV.agg cs)) = _
  simp only [partsV, fillP, h1, osel_some]
  rfl
theorem evQ_f0 {z0 z1 : AV} {F : Fr} {h : T AB} : evQ (.build [z0, z1] []) F h = some (.agg [z0, z1]) := rfl
end Go.Ev.Gl

namespace Go.Ev.Gl
variable {fns : T AFn}

/-! ## A text as a natural number -/
def PBadI (S : St) (b : Nat) (s : List Nat) (k : Nat) (A : Act') (S' : St) : Prop :=
  A.inr = false ∧ S' = S ∧ ∃ i, i + k = s.length ∧ Digits (s.take i) ∧ tmpV 0 A.F = .str s ∧ tmpV 3 A.F = .ptr b 0 ∧ tmpV 15 A.F = .int .i64 ((s.length : Nat) : Int) ∧ tmpV 16 A.F = .int .i64 (i : Int)
end Go.Ev.Gl

namespace Go.Ev.Gl
variable {fns : T AFn}

theorem wrap_u8 {n : Int} (h1 : 0 ≤ n) (h2 : n ≤ 255) : IntKind.u8.wrap n = n := wrap_id (by simp [IntKind.min, IntKind.signed]; omega) (by simp [IntKind.max, IntKind.signed, IntKind.bits]; omega)
theorem byteCells_eq : ∀ s : List Nat, byteCells s = cells8 s
  | [] => rfl
  | b :: s => by show _ :: byteCells s = _; rw [byteCells_eq s]; rfl
theorem evA_bytes {t : Nat} {x : Opd} {F : Fr} {id : Nat} {s : List Nat} (h : x.val F = .str s) : evA (.strBytes t x) F id = some (.sl id 0 s.length s.length true, .cells (cells8 s) true 1) := by
  show strBytesV (x.val F) id = _
  rw [h]
  show some (AV.sl id 0 (lenL s) (lenL s) true, AB.cells (byteCells s) true 1) = _
  rw [lenL_eq, byteCells_eq]
theorem str_slc {s : List Nat} {F : Fr} {x y : Opd} {i j : Nat} (hx : natOf (x.val F) = some i) (hy : natOf (y.val F) = some j) (h1 : i ≤ j) (h2 : j ≤ s.length) : slcV .str (.str s) (some x) (some y) none F = some (.str ((s.take j).drop i)) := by
  show slStr s (some x) (some y) none F = _
  simp only [slStr, optNat, hx, hy, osel_some, lenL_eq]
  rw [Nat.ble_eq_true_of_le h2, bsel_true, Nat.ble_eq_true_of_le h1, bsel_true]
  unfold cut
  rw [takeL_eq, dropL_eq, if_pos (by simp; omega), osel_some]
  congr 2
  rw [List.drop_take]

def ChunkI (S0 : St) (b : Nat) (w : List Nat) (F0 : Fr) (k : Nat) (A : Act') (S' : St) : Prop :=
  A.inr = false ∧ S' = S0 ∧ ∃ i, i + k = w.length ∧ (∀ j, j < 7 → tmpV j A.F = tmpV j F0) ∧ tmpV 58 A.F = .sl b 0 w.length w.length true ∧ tmpV 59 A.F = .int .i64 ((w.length : Nat) : Int) ∧ tmpV 60 A.F = .int .i64 (i : Int) ∧ tmpV 7 A.F = .int .u32 ((decVal (w.take i) : Nat) : Int)
/-- the code of the loop over a chunk's bytes -/
noncomputable def chunkC : AC :=
(.block 4 (.loop (.seq (.reg [⟨(some 61),(.q (.bin .lss (.p .int) (.t 60) (.t 59))),none,0⟩])
(.seq (.cond (.t 61) .skip (.exit 4))
(.seq (.block 5 (.seq (.reg [⟨(some 62),(.q (.iaddr (.slice 1) (.t 58) (.t 60))),none,0⟩,
⟨(some 63),(.q (.ld false 1 (.t 62))),none,0⟩,
⟨(some 9),(.q (.mv (.t 63))),none,0⟩])
(.reg [⟨(some 64),(.q (.mv (.t 7))),none,0⟩,
⟨(some 65),(.q (.bin .mul (.p .int) (.c (.int .u32 (.ofNat 10))) (.t 64))),none,0⟩,
⟨(some 66),(.q (.mv (.t 9))),none,0⟩,
⟨(some 67),(.q (.bin .sub (.p .int) (.t 66) (.c (.int .u8 (.ofNat 48))))),none,0⟩,
⟨(some 68),(.q (.conv (.int .u32) (.t 67))),none,0⟩,
⟨(some 69),(.q (.bin .add (.p .int) (.t 65) (.t 68))),none,0⟩,
⟨(some 7),(.q (.mv (.t 69))),none,0⟩])))
(.reg [⟨(some 70),(.q (.bin .add (.p .int) (.t 60) (.c (.int .i64 (.ofNat 1))))),none,0⟩,
⟨(some 60),(.q (.mv (.t 70))),none,0⟩]))))))
theorem chunk_in {S0 : St} {b : Nat} {w : List Nat} {F0 F : Fr} {Q : Out → Act' → St → Prop} {c : AC} (hw : Digits w) (hlen : w.length ≤ 9) (hb : S0.h.get b = some (.cells (cells8 w) true 1)) (hF : ∀ j, j < 7 → tmpV j F = tmpV j F0) (p58 : tmpV 58 F = .sl b 0 w.length w.length true) (p59 : tmpV 59 F = .int .i64 ((w.length : Nat) : Int)) (p60 : tmpV 60 F = .int .i64 0) (p7 : tmpV 7 F = .int .u32 0) (hc : c = chunkC)
    (hQ : ∀ F', (∀ j, j < 7 → tmpV j F' = tmpV j F0) → tmpV 7 F' = .int .u32 ((decVal w : Nat) : Int) → Q .normal ⟨F', false⟩ S0) : wpc fns c ⟨F, false⟩ S0 Q := by
  subst hc
  refine wpc_block (wpc_loop (ChunkI S0 b w F0) ?_ w.length _ _ ⟨rfl, rfl, 0, by omega, hF, p58, p59, p60, by rw [List.take_zero, decVal_nil]; exact p7⟩)
  clear hF p58 p59 p60 p7
  rintro k ⟨F, inr⟩ X ⟨q0, hX, i, hik, hF, p58, p59, p60, p7⟩
  simp only at q0 hF p58 p59 p60 p7
  subst q0
  rw [hX]
  have hFk : ∀ (d : Nat) (v : AV) (G : Fr), 7 ≤ d → (∀ j, j < 7 → tmpV j G = tmpV j F0) → ∀ j, j < 7 → tmpV j (putF (some d) G v) = tmpV j F0 := fun d v G hd hG j hj => by rw [tmpV_putF, if_neg (by omega)]; exact hG j hj
  refine wsr ?_
  simp only [↓stU, stD, reduceEqDiff, ↓reduceIte, p59, p60]
  by_cases hi : i < w.length
  · refine wpc_seq (wpc_yes (by simp only [↓stU, stD, reduceEqDiff, ↓reduceIte, decide_eq_true (show (i : Int) < ((w.length : Nat) : Int) by omega)]) (wpc_skip ?_))
    simp only [↓stU, stD, reduceEqDiff, ↓reduceIte]
    have hld := ld8 hb (p := i) hi
    have hia := own_ia (b := b) (n := w.length) (cap := w.length) (i := i) (o := true) hi
    have hc := hw (w[i]?.getD 0) (by rw [List.getElem?_eq_getElem hi]; exact List.getElem_mem hi)
    have htk : w.take (i + 1) = w.take i ++ [w[i]?.getD 0] := by rw [List.take_add_one, List.getElem?_eq_getElem hi]; rfl
    have hval : decVal (w.take (i + 1)) = 10 * decVal (w.take i) + (w[i]?.getD 0 - 48) := by rw [htk, decVal_append, decVal_one]; simp
    have hlt : decVal (w.take (i + 1)) < 10 ^ 9 := Nat.lt_of_lt_of_le (decVal_lt (fun c hc => hw c (List.mem_of_mem_take hc))) (Nat.pow_le_pow_right (by decide) (by rw [List.length_take]; omega))
    generalize w[i]?.getD 0 = c at *
    generalize decVal (w.take i) = x at *
    have w1 : IntKind.u32.wrap (10 * (x : Int)) = ((10 * x : Nat) : Int) := by rw [wrap_u32 (by omega) (by omega)]; omega
    have w2 : IntKind.u8.wrap ((c : Int) - 48) = ((c - 48 : Nat) : Int) := by rw [wrap_u8 (by omega) (by omega)]; omega
    have w3 : IntKind.u32.wrap ((c - 48 : Nat) : Int) = ((c - 48 : Nat) : Int) := wrap_u32 (by omega) (by omega)
    have w4 : IntKind.u32.wrap (((10 * x : Nat) : Int) + ((c - 48 : Nat) : Int)) = ((decVal (w.take (i + 1)) : Nat) : Int) := by rw [hval, wrap_u32 (by omega) (by omega)]; omega
    have w5 : IntKind.i64.wrap ((i : Int) + 1) = ((i + 1 : Nat) : Int) := by rw [wrap_i64 (by omega) (by omega)]; omega
    refine wpc_seq (wpc_block (wpc_seq (wpc_reg ?_)))
    simp only [↓stU, stD, reduceEqDiff, ↓reduceIte, p58, p60, natOf_cast, hia, hld]
    refine wpc_reg ?_
    simp only [↓stU, stD, reduceEqDiff, ↓reduceIte, p7, w1, w2, w3, w4]
    refine wpc_reg ?_
    simp only [↓stU, stD, reduceEqDiff, ↓reduceIte, p60, w5]
    refine ⟨k - 1, by omega, rfl, rfl, i + 1, by omega, ?_, by simp only [↓stU, stD, reduceEqDiff, ↓reduceIte, p58], by simp only [↓stU, stD, reduceEqDiff, ↓reduceIte, p59], by simp only [↓stU, stD, reduceEqDiff, ↓reduceIte], by simp only [↓stU, stD, reduceEqDiff, ↓reduceIte]⟩
    intro j hj
    simp only [tmpV_putF, show ∀ d, 7 ≤ d → (j = d) = False from fun d hd => by simp; omega, Nat.reduceLeDiff, if_false]
    exact hF j hj
  · refine wpc_seq (wpc_non (by simp only [↓stU, stD, reduceEqDiff, ↓reduceIte, decide_eq_false (show ¬ (i : Int) < ((w.length : Nat) : Int) by omega)]) (wpc_exit ?_))
    simp only [↓stU, stD, reduceEqDiff, ↓reduceIte]
    rw [List.take_of_length_le (by omega)] at p7
    refine hQ _ ?_ (by simp only [↓stU, stD, reduceEqDiff, ↓reduceIte, p7])
    intro j hj
    simp only [tmpV_putF, show ∀ d, 7 ≤ d → (j = d) = False from fun d hd => by simp; omega, Nat.reduceLeDiff, if_false]
    exact hF j hj
end Go.Ev.Gl

namespace Go.Ev.Gl
variable {fns : T AFn}

def PMainI (S1 : St) (b : Nat) (s : List Nat) (k : Nat) (A : Act') (S' : St) : Prop :=
  A.inr = false ∧ ∃ (d : List Nat) (u : AV), k = s.length - 9 * d.length ∧ tmpV 0 A.F = .str s ∧ tmpV 3 A.F = .ptr b 0 ∧ tmpV 5 A.F = u ∧ tmpV 6 A.F = .int .i64 ((s.length : Int) - 9 * (d.length : Int)) ∧ (d = [] ∨ 9 * (d.length - 1) < s.length) ∧ GrIs S1 S' u d ∧ Same S1 S' ∧ Small d ∧ val d + B ^ d.length * decVal (s.take k) = decVal s
theorem GrIs.step {S0 S S' : St} {v : AV} {d : List Nat} (h : GrIs S0 S v d) (hs : Same S S') : GrIs S0 S' v d := by
  rcases h with h | ⟨b, h1, h2, h3, h4⟩
  · exact .inl h
  · exact .inr ⟨b, h1, h2, Nat.lt_of_lt_of_le h3 hs.1, (hs.2 b h3).trans h4⟩
theorem GrIs.but {S0 S S' : St} {v : AV} {d : List Nat} {c : Nat} (h : GrIs S0 S v d) (hs : SameBut c S S') (hc : c < S0.nx) : GrIs S0 S' v d := by
  rcases h with h | ⟨b, h1, h2, h3, h4⟩
  · exact .inl h
  · exact .inr ⟨b, h1, h2, Nat.lt_of_lt_of_le h3 hs.1, (hs.2 b h3 (by omega)).trans h4⟩
theorem dec_chunk (s : List Nat) (k : Nat) (hk : k ≤ s.length) : decVal (s.take k) = B * decVal (s.take (k - 9)) + decVal ((s.take k).drop (k - 9)) := by
  rcases Nat.lt_or_ge k 9 with h | h
  · rw [show k - 9 = 0 by omega]; simp [decVal_nil]
  · have e : s.take k = s.take (k - 9) ++ (s.take k).drop (k - 9) := by
      conv => lhs; rw [← List.take_append_drop (k - 9) (s.take k)]
      rw [List.take_take, Nat.min_eq_left (by omega)]
    have := decVal_append (s.take (k - 9)) ((s.take k).drop (k - 9))
    rw [← e] at this
    rw [this, show ((s.take k).drop (k - 9)).length = 9 by simp; omega]
    rfl
theorem strEq_dec : ∀ a b : List Nat, strEq a b = decide (a = b)
  | [], [] => rfl
  | [], b :: y => rfl
  | a :: x, [] => rfl
  | a :: x, b :: y => by
    show bsel (Nat.beq a b) (strEq x y) false = _
    rw [strEq_dec x y]
    by_cases h : a = b
    · subst h; rw [Nat.beq_refl, bsel_true]; simp
    · rw [show Nat.beq a b = false from Bool.eq_false_iff.2 fun e => h (Nat.eq_of_beq_eq_true e), bsel_false]; simp [h]
theorem bin_eql_str (e : EqT) (a b : List Nat) : binV .eql e (.str a) (.str b) = some (.bool (decide (a = b))) := by
  show some (AV.bool (strEq a b)) = _
  rw [strEq_dec]

theorem pparse_spec {S : St} {s : List Nat} (H : Has fns) : wpf fns (.fn 26 [] []) [.str s] S fun r S' => ∃ u, r = .tup [u, .agg [.int .i64 (natF s).1, .int .i64 (natF s).2]] ∧ ((natF s).1 = 0 → NatIs S' u (decVal s)) ∧ ((natF s).1 ≠ 0 → u = .nilsl) ∧ Same S S' := by
  have hB : B = 1000000000 := rfl
  refine wpf_fn H.f26 (by simp) ?_
  simp only [↓stU, stD, reduceEqDiff, ↓reduceIte]
  refine wsr ?_
  simp only [↓stU, stD, reduceEqDiff, ↓reduceIte]
  refine wpo_alloc ?_
  intro S1 s1 n1 c1
  simp only [↓stU, stD, reduceEqDiff, ↓reduceIte]
  refine wss ?_
  simp only [↓stU, stD, reduceEqDiff, ↓reduceIte, evQ_lenStr, lenStr_eq]
  unfold natF
  by_cases h1 : 9216 < s.length
  · rw [if_pos h1]
    refine wpc_yes (by simp only [↓stU, stD, reduceEqDiff, ↓reduceIte, decide_eq_true (show (9216 : Int) < ((s.length : Nat) : Int) by omega)]) ?_
    refine wsr ?_
    simp only [↓stU, stD, reduceEqDiff, ↓reduceIte, evQ_f2, cells_int]
    refine wpo_st (b := S.nx) (by simp only [↓stU, stD, reduceEqDiff, ↓reduceIte]) (by simp only [↓stU, stD, reduceEqDiff, ↓reduceIte, cells_agg]; rfl) c1 rfl rfl ?_
    intro S2 s2 n2 c2
    simp only [↓stU, stD, reduceEqDiff, ↓reduceIte]
    refine wpc_ret ?_
    simp only [↓stU, stD, reduceEqDiff, ↓reduceIte, results_cell, ld2a c2]
    exact ⟨_, rfl, fun h => (by cases h), fun _ => rfl, s2.same s1 (Nat.le_refl _)⟩
  rw [if_neg h1]
  refine wpc_non (by simp only [↓stU, stD, reduceEqDiff, ↓reduceIte, decide_eq_false (show ¬ (9216 : Int) < ((s.length : Nat) : Int) by omega)]) (wpc_skip ?_)
  try simp only [↓stU, stD, reduceEqDiff, ↓reduceIte]
  refine wpc_seq (wpc_mono (Q := fun o A' X => (o = .normal ∧ PBadI S1 S.nx s 0 A' X) ∨ (o = .ret ∧ badAt s < s.length ∧ tmpV 2 A'.F = .nilsl ∧ tmpV 3 A'.F = .ptr S.nx 0 ∧ SameBut S.nx S1 X ∧ X.h.get S.nx = some (.cells [.int .i64 11, .int .i64 (badAt s : Int)] false 0))) (wpc_seq (wpc_reg ?_)) ?_)
  · simp only [↓stU, stD, reduceEqDiff, ↓reduceIte, evQ_lenStr, lenStr_eq]
    refine wpc_block (wpc_loop (PBadI S1 S.nx s) ?_ s.length _ _ ⟨rfl, rfl, 0, by omega, fun c hc => (by simp at hc), by simp only [↓stU, stD, reduceEqDiff, ↓reduceIte], by simp only [↓stU, stD, reduceEqDiff, ↓reduceIte], by simp only [↓stU, stD, reduceEqDiff, ↓reduceIte], by simp only [↓stU, stD, reduceEqDiff, ↓reduceIte]⟩)
    rintro k ⟨F, inr⟩ X ⟨q0, hX, i, hik, hd, p0, p3, p15, p16⟩
    simp only at q0 p0 p3 p15 p16
    subst q0
    rw [hX]
    refine wsr ?_
    simp only [↓stU, stD, reduceEqDiff, ↓reduceIte, p15, p16]
    by_cases hi : i < s.length
    · refine wpc_seq (wpc_yes (by simp only [↓stU, stD, reduceEqDiff, ↓reduceIte, decide_eq_true (show (i : Int) < ((s.length : Nat) : Int) by omega)]) (wpc_skip ?_))
      simp only [↓stU, stD, reduceEqDiff, ↓reduceIte]
      have hix := idxStr_eq hi
      have hbad := badAt_eq hi hd
      have htk : s.take (i + 1) = s.take i ++ [s[i]?.getD 0] := by rw [List.take_add_one, List.getElem?_eq_getElem hi]; rfl
      generalize s[i]?.getD 0 = c at *
      refine wpc_seq (wpc_block (wpc_seq (wpc_reg ?_)))
      simp only [↓stU, stD, reduceEqDiff, ↓reduceIte, p16]
      refine wpc_seq (wpc_mono (Q := fun o A' X => o = .normal ∧ A'.inr = false ∧ X = S1 ∧ tmpV 0 A'.F = .str s ∧ tmpV 3 A'.F = .ptr S.nx 0 ∧ tmpV 15 A'.F = .int .i64 ((s.length : Nat) : Int) ∧ tmpV 16 A'.F = .int .i64 (i : Int) ∧ tmpV 4 A'.F = .int .i64 (i : Int) ∧ tmpV 28 A'.F = .bool (decide (c < 48 ∨ 57 < c))) (wpc_reg ?_) ?_)
      · by_cases hc1 : c < 48
        · simp only [↓stU, stD, reduceEqDiff, ↓reduceIte, p0, p3, p15, p16, evQ_idxStr, natOf_cast, hix, decide_eq_true (show (c : Int) < 48 by omega), decide_eq_true (show c < 48 ∨ 57 < c by omega)]
        · by_cases hc2 : 57 < c
          · simp only [↓stU, stD, reduceEqDiff, ↓reduceIte, p0, p3, p15, p16, evQ_idxStr, natOf_cast, hix, decide_eq_false (show ¬ (c : Int) < 48 by omega), decide_eq_true (show (57 : Int) < (c : Int) by omega), decide_eq_true (show c < 48 ∨ 57 < c by omega)]
          · simp only [↓stU, stD, reduceEqDiff, ↓reduceIte, p0, p3, p15, p16, evQ_idxStr, natOf_cast, hix, decide_eq_false (show ¬ (c : Int) < 48 by omega), decide_eq_false (show ¬ (57 : Int) < (c : Int) by omega), decide_eq_false (show ¬ (c < 48 ∨ 57 < c) by omega)]
      clear p0 p3 p15 p16
      rintro o ⟨F, inr⟩ X ⟨rfl, q0, hX, p0, p3, p15, p16, p4, p28⟩
      simp only at q0 p0 p3 p15 p16 p4 p28
      subst q0
      rw [hX]
      try simp only [↓stU, stD, reduceEqDiff, ↓reduceIte]
      by_cases hc : c < 48 ∨ 57 < c
      · refine wpc_yes (by simp only [↓stU, stD, reduceEqDiff, ↓reduceIte, p28, decide_eq_true hc]) ?_
        refine wsr ?_
        simp only [↓stU, stD, reduceEqDiff, ↓reduceIte, p4, evQ_f2, cells_int]
        refine wpo_st (b := S.nx) (by simp only [↓stU, stD, reduceEqDiff, ↓reduceIte, p3]) (by simp only [↓stU, stD, reduceEqDiff, ↓reduceIte, cells_agg]; rfl) c1 rfl rfl ?_
        intro S2 s2 n2 c2
        simp only [↓stU, stD, reduceEqDiff, ↓reduceIte]
        refine wpc_ret ?_
        simp only [↓stU, stD, reduceEqDiff, ↓reduceIte, p3]
        rw [hbad hc]
        exact .inr ⟨hi, s2, c2⟩
      · refine wpc_non (by simp only [↓stU, stD, reduceEqDiff, ↓reduceIte, p28, decide_eq_false hc]) (wpc_skip ?_)
        try simp only [↓stU, stD, reduceEqDiff, ↓reduceIte]
        refine wpc_reg ?_
        have w1 : IntKind.i64.wrap ((i : Int) + 1) = ((i + 1 : Nat) : Int) := by rw [wrap_i64 (by omega) (by omega)]; omega
        simp only [↓stU, stD, reduceEqDiff, ↓reduceIte, p16, w1]
        refine ⟨k - 1, by omega, rfl, rfl, i + 1, by omega, ?_, by simp only [↓stU, stD, reduceEqDiff, ↓reduceIte, p0], by simp only [↓stU, stD, reduceEqDiff, ↓reduceIte, p3], by simp only [↓stU, stD, reduceEqDiff, ↓reduceIte, p15], by simp only [↓stU, stD, reduceEqDiff, ↓reduceIte]⟩
        rw [htk]
        exact Digits.append.2 ⟨hd, fun x hx => by simp at hx; omega⟩
    · refine wpc_seq (wpc_non (by simp only [↓stU, stD, reduceEqDiff, ↓reduceIte, decide_eq_false (show ¬ (i : Int) < ((s.length : Nat) : Int) by omega)]) (wpc_exit ?_))
      simp only [↓stU, stD, reduceEqDiff, ↓reduceIte]
      exact .inl ⟨rfl, rfl, i, by omega, hd, by simp only [↓stU, stD, reduceEqDiff, ↓reduceIte, p0], by simp only [↓stU, stD, reduceEqDiff, ↓reduceIte, p3], by simp only [↓stU, stD, reduceEqDiff, ↓reduceIte, p15], by simp only [↓stU, stD, reduceEqDiff, ↓reduceIte, p16]⟩
  rintro o ⟨F, inr⟩ X (⟨rfl, q0, hX, i, hik, hd, p0, p3, p15, p16⟩ | ⟨rfl, hbad, p2, p3, hX, hc⟩)
  rotate_left
  · simp only at p2 p3
    rw [if_pos hbad]
    simp only [↓stU, stD, reduceEqDiff, ↓reduceIte, results_cell, p2, p3, ld2a hc]
    exact ⟨_, rfl, fun h => (by cases h), fun _ => rfl, hX.same s1 (Nat.le_refl _)⟩
  simp only at q0 p0 p3
  subst q0
  rw [hX]
  rw [List.take_of_length_le (by omega)] at hd
  rw [if_neg (badAt_digits.2 hd)]
  try simp only [↓stU, stD, reduceEqDiff, ↓reduceIte]
  clear p15 p16
  refine wpc_seq (wpc_seq (wpc_mono (Q := fun o A' X => o = .normal ∧ A'.inr = false ∧ X = S1 ∧ tmpV 0 A'.F = .str s ∧ tmpV 3 A'.F = .ptr S.nx 0 ∧ tmpV 44 A'.F = .bool (decide (s = [] ∨ (1 < s.length ∧ s.head? = some 48)))) (wpc_reg ?_) ?_))
  · cases s with
    | nil => simp only [↓stU, stD, reduceEqDiff, ↓reduceIte, p0, p3, evQ_lenStr, lenStr_eq, List.length_nil]; simp
    | cons c t =>
      have hix := idxStr_eq (s := c :: t) (i := 0) (by simp)
      rw [show (c :: t)[0]?.getD 0 = c from rfl] at hix
      cases t with
      | nil => simp only [↓stU, stD, reduceEqDiff, ↓reduceIte, p0, p3, evQ_lenStr, lenStr_eq]; simp
      | cons c' t =>
        by_cases hc : c = 48
        · subst hc
          simp only [↓stU, stD, reduceEqDiff, ↓reduceIte, p0, p3, evQ_lenStr, lenStr_eq, evQ_idxStr, nat0, hix, decide_eq_false (show ¬ (((48 :: c' :: t : List Nat).length : Nat) : Int) = 0 by simp; omega), decide_eq_true (show (1 : Int) < (((48 :: c' :: t : List Nat).length : Nat) : Int) by simp; omega)]
          simp
        · simp only [↓stU, stD, reduceEqDiff, ↓reduceIte, p0, p3, evQ_lenStr, lenStr_eq, evQ_idxStr, nat0, hix, decide_eq_false (show ¬ (((c :: c' :: t : List Nat).length : Nat) : Int) = 0 by simp; omega), decide_eq_true (show (1 : Int) < (((c :: c' :: t : List Nat).length : Nat) : Int) by simp; omega), decide_eq_false (show ¬ (c : Int) = 48 by omega)]
          simp [hc]
  rintro o ⟨F, inr⟩ X ⟨rfl, q0, hX, p0, p3, p44⟩
  simp only at q0 p0 p3 p44
  subst q0
  rw [hX]
  try simp only [↓stU, stD, reduceEqDiff, ↓reduceIte]
  by_cases hbad : s = [] ∨ (1 < s.length ∧ s.head? = some 48)
  · rw [if_pos hbad]
    refine wpc_yes (by simp only [↓stU, stD, reduceEqDiff, ↓reduceIte, p44, decide_eq_true hbad]) ?_
    refine wsr ?_
    simp only [↓stU, stD, reduceEqDiff, ↓reduceIte, evQ_f1, cells_int]
    refine wpo_st (b := S.nx) (by simp only [↓stU, stD, reduceEqDiff, ↓reduceIte, p3]) (by simp only [↓stU, stD, reduceEqDiff, ↓reduceIte, cells_agg]; rfl) c1 rfl rfl ?_
    intro S2 s2 n2 c2
    simp only [↓stU, stD, reduceEqDiff, ↓reduceIte]
    refine wpc_ret ?_
    simp only [↓stU, stD, reduceEqDiff, ↓reduceIte, results_cell, p3, ld2a c2]
    exact ⟨_, rfl, fun h => (by cases h), fun _ => rfl, s2.same s1 (Nat.le_refl _)⟩
  rw [if_neg hbad]
  refine wpc_non (by simp only [↓stU, stD, reduceEqDiff, ↓reduceIte, p44, decide_eq_false hbad]) (wpc_skip ?_)
  try simp only [↓stU, stD, reduceEqDiff, ↓reduceIte]
  have hne : s ≠ [] := fun e => hbad (.inl e)
  have hdec : IsDec s (decVal s) := ⟨hd, hne, rfl, fun h => by
    obtain ⟨c, t, rfl⟩ : ∃ c t, s = c :: t := by cases s with | nil => exact absurd rfl hne | cons c t => exact ⟨c, t, rfl⟩
    simp at h
    subst h
    cases t with
    | nil => rfl
    | cons c' t => exact absurd (.inr ⟨by simp, rfl⟩) hbad⟩
  refine wsr ?_
  simp only [↓stU, stD, reduceEqDiff, ↓reduceIte]
  refine wss ?_
  simp only [↓stU, stD, reduceEqDiff, ↓reduceIte, p0, evQ_lenStr, lenStr_eq]
  refine wpc_mono (Q := fun o A' X => o = .normal ∧ PMainI S1 S.nx s 0 A' X) (wpc_block (wpc_loop (PMainI S1 S.nx s) ?_ s.length _ _ ⟨rfl, [], .nilsl, by simp, by simp only [↓stU, stD, reduceEqDiff, ↓reduceIte, p0], by simp only [↓stU, stD, reduceEqDiff, ↓reduceIte, p3], by simp only [↓stU, stD, reduceEqDiff, ↓reduceIte], by simp only [↓stU, stD, reduceEqDiff, ↓reduceIte, List.length_nil]; simp, .inl rfl, .inl ⟨rfl, rfl⟩, Same.refl S1, Small.nil, by simp [val_nil]⟩)) ?_
  · rintro k ⟨F, inr⟩ X ⟨q0, d, u, hk, p0, p3, p5, p6, hlow, hg, hS, hsd, hinv⟩
    simp only at q0 p0 p3 p5 p6
    subst q0
    refine wss ?_
    simp only [↓stU, stD, reduceEqDiff, ↓reduceIte, p6]
    by_cases hk0 : 0 < k
    · refine wpc_yes (by simp only [↓stU, stD, reduceEqDiff, ↓reduceIte, decide_eq_true (show (0 : Int) < (s.length : Int) - 9 * (d.length : Int) by omega)]) (wpc_skip ?_)
      try simp only [↓stU, stD, reduceEqDiff, ↓reduceIte]
      have hkk : (s.length : Int) - 9 * (d.length : Int) = (k : Int) := by omega
      rw [hkk] at p6
      refine wpc_seq (wpc_block (wpc_seq (wpc_reg ?_)))
      simp only [↓stU, stD, reduceEqDiff, ↓reduceIte]
      refine wss ?_
      have w1 : IntKind.i64.wrap ((k : Int) - 9) = (k : Int) - 9 := wrap_i64 (by omega) (by omega)
      have hmx : mx 0 ((k : Int) - 9) = ((k - 9 : Nat) : Int) := by unfold mx; split <;> omega
      have hsl : ∀ F : Fr, tmpV 55 F = .int .i64 ((k - 9 : Nat) : Int) → tmpV 56 F = .int .i64 (k : Int) → slcV .str (.str s) (some (.t 55)) (some (.t 56)) none F = some (.str ((s.take k).drop (k - 9))) := fun F h1 h2 => str_slc (by rw [val_t, h1, natOf_cast]) (by rw [val_t, h2, natOf_cast]) (by omega) (by omega)
      have hw : Digits ((s.take k).drop (k - 9)) := fun c hc => hd c (List.mem_of_mem_take (List.mem_of_mem_drop hc))
      have hwl : ((s.take k).drop (k - 9)).length ≤ 9 := by simp; omega
      have hch := dec_chunk s k (by omega)
      have hlt : decVal ((s.take k).drop (k - 9)) < B := Nat.lt_of_lt_of_le (decVal_lt hw) (Nat.le_trans (Nat.pow_le_pow_right (n := 10) (by decide) hwl) (Nat.le_of_eq (show (10 : Nat) ^ 9 = B from rfl)))
      generalize (s.take k).drop (k - 9) = w at *
      simp only [↓stU, stD, reduceEqDiff, ↓reduceIte, p0, p6, w1, evQ_mm, mm_cons, mm_nil, mm_int, hmx, hsl]
      refine wpo_al (evA_bytes (s := w) (by simp only [↓stU, stD, reduceEqDiff, ↓reduceIte])) ?_
      intro S2 s2 n2 g2
      have hls : lenSlV (.sl X.nx 0 w.length w.length true) = some (.int .i64 ((w.length : Nat) : Int)) := rfl
      simp only [↓stU, stD, reduceEqDiff, ↓reduceIte, hls]
      refine chunk_in (b := X.nx) hw hwl g2 (fun _ _ => rfl) (by simp only [↓stU, stD, reduceEqDiff, ↓reduceIte]) (by simp only [↓stU, stD, reduceEqDiff, ↓reduceIte]) (by simp only [↓stU, stD, reduceEqDiff, ↓reduceIte]) (by simp only [↓stU, stD, reduceEqDiff, ↓reduceIte]) rfl ?_
      intro F' hF' r7
      have r0 : tmpV 0 F' = .str s := by rw [hF' 0 (by decide)]; simp only [↓stU, stD, reduceEqDiff, ↓reduceIte, p0]
      have r3 : tmpV 3 F' = .ptr S.nx 0 := by rw [hF' 3 (by decide)]; simp only [↓stU, stD, reduceEqDiff, ↓reduceIte, p3]
      have r5 : tmpV 5 F' = u := by rw [hF' 5 (by decide)]; simp only [↓stU, stD, reduceEqDiff, ↓reduceIte, p5]
      have r6 : tmpV 6 F' = .int .i64 (k : Int) := by rw [hF' 6 (by decide)]; simp only [↓stU, stD, reduceEqDiff, ↓reduceIte, p6]
      have hS2 := hS.trans s2
      obtain ⟨v', S3, happ, hg3, hS3⟩ := (hg.step s2).app (w := decVal w) (bytes := 4) hS2 (by unfold room; omega) (by unfold room; omega)
      try simp only [↓stU, stD, reduceEqDiff, ↓reduceIte]
      refine wpc_reg ?_
      simp only [↓stU, stD, reduceEqDiff, ↓reduceIte, ↓stV, stW, Nat.reduceAdd, r5, r7]
      rw [evA_one (k := .u32) (n := ((decVal w : Nat) : Int)) (by simp only [↓stU, stD, reduceEqDiff, ↓reduceIte, ↓stV, stW, Nat.reduceAdd])]
      try simp only [↓stU, stD, reduceEqDiff, ↓reduceIte, ↓stV, stW, Nat.reduceAdd]
      refine wpo_x (fun call => by simp only [↓stU, stD, reduceEqDiff, ↓reduceIte, ↓stV, stW, Nat.reduceAdd, evX_app, r5]; exact happ) ?_
      try simp only [↓stU, stD, reduceEqDiff, ↓reduceIte, ↓stV, stW, Nat.reduceAdd]
      refine wpc_reg ?_
      simp only [↓stU, stD, reduceEqDiff, ↓reduceIte, ↓stV, stW, Nat.reduceAdd, r6, w1]
      refine ⟨k - 9, by omega, rfl, d ++ [decVal w], v', by simp; omega, by simp only [↓stU, stD, reduceEqDiff, ↓reduceIte, ↓stV, stW, Nat.reduceAdd, r0], by simp only [↓stU, stD, reduceEqDiff, ↓reduceIte, ↓stV, stW, Nat.reduceAdd, r3], by simp only [↓stU, stD, reduceEqDiff, ↓reduceIte, ↓stV, stW, Nat.reduceAdd], by simp only [↓stU, stD, reduceEqDiff, ↓reduceIte, ↓stV, stW, Nat.reduceAdd, List.length_append]; congr 1; simp; omega, .inr (by simp; omega), hg3, hS3, Small.append.2 ⟨hsd, small_one hlt⟩, ?_⟩
      rw [val_snoc, List.length_append, List.length_cons, List.length_nil, Nat.pow_succ, ← hinv, hch, Nat.mul_add]
      have : B ^ d.length * B * decVal (s.take (k - 9)) = B ^ d.length * (B * decVal (s.take (k - 9))) := Nat.mul_assoc ..
      omega
    · refine wpc_non (by simp only [↓stU, stD, reduceEqDiff, ↓reduceIte, decide_eq_false (show ¬ (0 : Int) < (s.length : Int) - 9 * (d.length : Int) by omega)]) (wpc_exit ?_)
      simp only [↓stU, stD, reduceEqDiff, ↓reduceIte]
      have hk1 : k = 0 := by omega
      subst hk1
      exact ⟨rfl, d, u, hk, by simp only [↓stU, stD, reduceEqDiff, ↓reduceIte, p0], by simp only [↓stU, stD, reduceEqDiff, ↓reduceIte, p3], by simp only [↓stU, stD, reduceEqDiff, ↓reduceIte, p5], by simp only [↓stU, stD, reduceEqDiff, ↓reduceIte, p6], hlow, hg, hS, hsd, hinv⟩
  rintro o ⟨F, inr⟩ X ⟨rfl, q0, d, u, hk, p0, p3, p5, p6, hlow, hg, hS, hsd, hinv⟩
  simp only at q0 p0 p3 p5 p6
  subst q0
  rw [List.take_zero, decVal_nil, Nat.mul_zero, Nat.add_zero] at hinv
  have cX : X.h.get S.nx = some (.cells [.int .i64 0, .int .i64 0] false 0) := by rw [hS.2 _ (by omega)]; exact c1
  have hSX := s1.trans hS
  try simp only [↓stU, stD, reduceEqDiff, ↓reduceIte]
  refine wss ?_
  simp only [↓stU, stD, reduceEqDiff, ↓reduceIte, p0, bin_eql_str]
  by_cases h48 : s = [48]
  · refine wpc_yes (by simp only [↓stU, stD, reduceEqDiff, ↓reduceIte, decide_eq_true h48]) ?_
    refine wsr ?_
    simp only [↓stU, stD, reduceEqDiff, ↓reduceIte, evQ_f0]
    refine wpo_st (b := S.nx) (by simp only [↓stU, stD, reduceEqDiff, ↓reduceIte, p3]) (by simp only [↓stU, stD, reduceEqDiff, ↓reduceIte, cells_agg]; rfl) cX rfl rfl ?_
    intro S2 s2 n2 c2
    simp only [↓stU, stD, reduceEqDiff, ↓reduceIte]
    refine wpc_ret ?_
    simp only [↓stU, stD, reduceEqDiff, ↓reduceIte, results_cell, p3, ld2a c2]
    have hz : NatIs S2 .nilsl (decVal s) := by rw [h48]; exact ⟨[], .inl ⟨rfl, .inl rfl⟩, ⟨Small.nil, by simp⟩, rfl⟩
    exact ⟨_, rfl, hz, fun h => absurd rfl h, s2.same hSX (Nat.le_refl _)⟩
  · refine wpc_non (by simp only [↓stU, stD, reduceEqDiff, ↓reduceIte, decide_eq_false h48]) (wpc_skip ?_)
    try simp only [↓stU, stD, reduceEqDiff, ↓reduceIte]
    refine wsr ?_
    simp only [↓stU, stD, reduceEqDiff, ↓reduceIte, p5, evQ_f0]
    refine wpo_st (b := S.nx) (by simp only [↓stU, stD, reduceEqDiff, ↓reduceIte, p3]) (by simp only [↓stU, stD, reduceEqDiff, ↓reduceIte, cells_agg]; rfl) cX rfl rfl ?_
    intro S2 s2 n2 c2
    simp only [↓stU, stD, reduceEqDiff, ↓reduceIte]
    refine wpc_ret ?_
    simp only [↓stU, stD, reduceEqDiff, ↓reduceIte, results_cell, p3, ld2a c2]
    refine ⟨_, rfl, ⟨d, (hg.but s2 (by omega)).limbs, norm_of_low hsd ?_, hinv⟩, fun h => absurd rfl h, s2.same hSX (Nat.le_refl _)⟩
    rcases hlow with h | h
    · exact .inl h
    · right
      rw [hinv, ← pow9]
      exact Nat.le_trans (Nat.pow_le_pow_right (by decide) (by omega)) (hdec.low h48)
end Go.Ev.Gl

namespace Go.Ev.Gl
variable {fns : T AFn}

/-! ## The library's functions on texts: one byte sought -/
theorem findByte_spec (c : Nat) : ∀ (s : List Nat) (k : Nat), (∃ i, i < s.length ∧ at' s i = c ∧ (∀ j, j < i → at' s j ≠ c) ∧ findByte c s k = ((k + i : Nat) : Int)) ∨ ((∀ j, j < s.length → at' s j ≠ c) ∧ findByte c s k = -1)
  | [], k => .inr ⟨fun j hj => (by simp at hj), rfl⟩
  | b :: s, k => by
    by_cases h : b = c
    · subst h
      refine .inl ⟨0, by simp, rfl, fun j hj => (by omega), ?_⟩
      show bsel (Nat.beq b b) _ _ = _
      rw [Nat.beq_refl, bsel_true]
      rfl
    · have e : findByte c (b :: s) k = findByte c s (k + 1) := by
        show bsel (Nat.beq b c) _ _ = _
        rw [show Nat.beq b c = false from Bool.eq_false_iff.2 fun e => h (Nat.eq_of_beq_eq_true e), bsel_false]
      rw [e]
      rcases findByte_spec c s (k + 1) with ⟨i, h1, h2, h3, h4⟩ | ⟨h1, h2⟩
      · refine .inl ⟨i + 1, by simpa using h1, h2, fun j hj => ?_, by rw [h4]; congr 1; omega⟩
        cases j with
        | zero => exact h
        | succ j => exact h3 j (by omega)
      · refine .inr ⟨fun j hj => ?_, h2⟩
        cases j with
        | zero => exact h
        | succ j => exact h1 j (by simpa using hj)
theorem evX_ext (k : ExtK) (l : List Opd) (call : CallF) (F : Fr) (S : St) : evX (.ext k l) call F S = osel (extV k (valsOf l F)) fun v => some (v, S) := rfl
theorem ext_idx {c : Nat} (hc : c ≤ 255) (s : List Nat) : extV .idxByte [.str s, .int .u8 (c : Int)] = some (.int .i64 (findByte c s 0)) := by
  show bsel (Nat.ble c 255) _ none = _
  rw [Nat.ble_eq_true_of_le hc, bsel_true]
theorem indexByte_spec {S : St} {s : List Nat} {c : Nat} (H : Has fns) (hc : c ≤ 255) : wpf fns (.fn 97 [] []) [.str s, .int .u8 (c : Int)] S fun r S' => r = .int .i64 (findByte c s 0) ∧ S' = S := by
  refine wpf_fn H.f97 (by simp) ?_
  simp only [↓stU, stD, reduceEqDiff, ↓reduceIte]
  refine wsr ?_
  simp only [↓stU, stD, reduceEqDiff, ↓reduceIte]
  refine wsr ?_
  simp only [↓stU, stD, reduceEqDiff, ↓reduceIte]
  refine wpo_x (fun call => by simp only [↓stU, stD, reduceEqDiff, ↓reduceIte, evX_ext]; rw [ext_idx hc, osel_some]) ?_
  simp only [↓stU, stD, reduceEqDiff, ↓reduceIte]
  refine wpc_ret ?_
  simp only [↓stU, stD, reduceEqDiff, ↓reduceIte]
theorem index_spec {S : St} {s : List Nat} {c : Nat} (H : Has fns) (hc : c ≤ 255) : wpf fns (.fn 82 [] []) [.str s, .str [c]] S fun r S' => r = .int .i64 (findByte c s 0) ∧ S' = S := by
  have hl : ((([c] : List Nat).length : Nat) : Int) = 1 := rfl
  have hix := idxStr_eq (s := [c]) (i := 0) (by simp)
  rw [show ([c] : List Nat)[0]?.getD 0 = c from rfl] at hix
  refine wpf_fn H.f82 (by simp) ?_
  simp only [↓stU, stD, reduceEqDiff, ↓reduceIte]
  refine wsr ?_
  simp only [↓stU, stD, reduceEqDiff, ↓reduceIte]
  refine wsr ?_
  simp only [↓stU, stD, reduceEqDiff, ↓reduceIte, evQ_lenStr, lenStr_eq, hl]
  refine wpc_seq (wpc_block (wpc_seq (wpc_reg ?_)))
  have h10 : decide ((1 : Int) = 0) = false := rfl
  simp only [↓stU, stD, reduceEqDiff, ↓reduceIte, h10, bin_eql_str]
  by_cases hs : [c] = s
  · refine wpc_yes (by simp only [↓stU, stD, reduceEqDiff, ↓reduceIte, decide_eq_true hs]) ?_
    refine wsr ?_
    simp only [↓stU, stD, reduceEqDiff, ↓reduceIte]
    refine wpc_ret ?_
    simp only [↓stU, stD, reduceEqDiff, ↓reduceIte]
    subst hs
    show _ = AV.int .i64 (bsel (Nat.beq c c) _ _)
    rw [Nat.beq_refl, bsel_true]
    rfl
  · refine wpc_non (by simp only [↓stU, stD, reduceEqDiff, ↓reduceIte, decide_eq_false hs]) ?_
    refine wsr ?_
    have h11 : decide ((1 : Int) = 1) = true := rfl
    simp only [↓stU, stD, reduceEqDiff, ↓reduceIte, h11]
    refine wpc_yes (by simp only [↓stU, stD, reduceEqDiff, ↓reduceIte, decide_true]) ?_
    refine wsr ?_
    simp only [↓stU, stD, reduceEqDiff, ↓reduceIte, evQ_idxStr, nat0, hix]
    refine wpo_call ?_
    simp only [↓stU, stD, reduceEqDiff, ↓reduceIte]
    refine wpf_mono (indexByte_spec H hc) ?_
    rintro _ S1 ⟨rfl, rfl⟩
    try simp only [↓stU, stD, reduceEqDiff, ↓reduceIte]
    refine wpc_ret ?_
    simp only [↓stU, stD, reduceEqDiff, ↓reduceIte]
theorem sindex_spec {S : St} {s : List Nat} {c : Nat} (H : Has fns) (hc : c ≤ 255) : wpf fns (.fn 81 [] []) [.str s, .str [c]] S fun r S' => r = .int .i64 (findByte c s 0) ∧ S' = S := by
  refine wpf_fn H.f81 (by simp) ?_
  simp only [↓stU, stD, reduceEqDiff, ↓reduceIte]
  refine wsr ?_
  simp only [↓stU, stD, reduceEqDiff, ↓reduceIte]
  refine wsr ?_
  simp only [↓stU, stD, reduceEqDiff, ↓reduceIte]
  refine wpo_call ?_
  simp only [↓stU, stD, reduceEqDiff, ↓reduceIte]
  refine wpf_mono (index_spec H hc) ?_
  rintro _ S1 ⟨rfl, rfl⟩
  try simp only [↓stU, stD, reduceEqDiff, ↓reduceIte]
  refine wpc_ret ?_
  simp only [↓stU, stD, reduceEqDiff, ↓reduceIte]
theorem contains_spec {S : St} {s : List Nat} {c : Nat} (H : Has fns) (hc : c ≤ 255) : wpf fns (.fn 54 [] []) [.str s, .str [c]] S fun r S' => r = .bool (decide (c ∈ s)) ∧ S' = S := by
  refine wpf_fn H.f54 (by simp) ?_
  simp only [↓stU, stD, reduceEqDiff, ↓reduceIte]
  refine wsr ?_
  simp only [↓stU, stD, reduceEqDiff, ↓reduceIte]
  refine wsr ?_
  simp only [↓stU, stD, reduceEqDiff, ↓reduceIte]
  refine wpo_call ?_
  simp only [↓stU, stD, reduceEqDiff, ↓reduceIte]
  refine wpf_mono (sindex_spec H hc) ?_
  rintro _ S1 ⟨rfl, rfl⟩
  have hd : decide ((0 : Int) ≤ findByte c s 0) = decide (c ∈ s) := by
    rcases findByte_spec c s 0 with ⟨i, h1, h2, _, h4⟩ | ⟨h1, h2⟩
    · rw [h4, decide_eq_true (by omega), decide_eq_true (by rw [← h2]; exact at_mem h1)]
    · rw [h2]
      have : ¬ c ∈ s := fun hm => by
        obtain ⟨i, hi, he⟩ := List.mem_iff_getElem.1 hm
        refine h1 i hi ?_
        unfold at'
        rw [List.getElem?_eq_getElem hi, he]
        rfl
      rw [decide_eq_false this]
      rfl
  simp only [↓stU, stD, reduceEqDiff, ↓reduceIte, hd]
  refine wpc_ret ?_
  simp only [↓stU, stD, reduceEqDiff, ↓reduceIte]

/-! ### parts of a text -/
theorem slc_hi {s : List Nat} {F : Fr} {y : Opd} {j : Nat} (hy : natOf (y.val F) = some j) (h2 : j ≤ s.length) : slcV .str (.str s) none (some y) none F = some (.str (s.take j)) := by
  show slStr s none (some y) none F = _
  simp only [slStr, optNat, hy, osel_some, lenL_eq]
  rw [Nat.ble_eq_true_of_le h2, bsel_true, Nat.ble_eq_true_of_le (Nat.zero_le _), bsel_true]
  unfold cut
  rw [takeL_eq, dropL_eq, if_pos (by simp; omega), osel_some]
  simp
theorem slc_lo {s : List Nat} {F : Fr} {x : Opd} {i : Nat} (hx : natOf (x.val F) = some i) (h1 : i ≤ s.length) : slcV .str (.str s) (some x) none none F = some (.str (s.drop i)) := by
  show slStr s (some x) none none F = _
  simp only [slStr, optNat, hx, osel_some, lenL_eq]
  rw [Nat.ble_eq_true_of_le (Nat.le_refl _), bsel_true, Nat.ble_eq_true_of_le h1, bsel_true]
  unfold cut
  rw [takeL_eq, dropL_eq, if_pos (by simp), osel_some]
  congr 2
  exact List.take_of_length_le (by simp)
theorem slash_le (s : List Nat) : slashAt s ≤ s.length := by unfold slashAt firstP; exact Nat.le_trans List.findIdx_le_length (by simp)
theorem cutl_spec {S : St} {s : List Nat} (H : Has fns) (hs : s.length ≤ 20000) : wpf fns (.fn 55 [] []) [.str s, .str [47]] S fun r S' => r = .tup [.str (above s), .str (below s), .bool (decide (slashAt s < s.length))] ∧ Same S S' := by
  refine wpf_fn H.f55 (by simp) ?_
  simp only [↓stU, stD, reduceEqDiff, ↓reduceIte]
  refine wsr ?_
  simp only [↓stU, stD, reduceEqDiff, ↓reduceIte]
  refine wss ?_
  simp only [↓stU, stD, reduceEqDiff, ↓reduceIte]
  refine wpo_call ?_
  simp only [↓stU, stD, reduceEqDiff, ↓reduceIte]
  refine wpf_mono (index_spec H (c := 47) (by decide)) ?_
  rintro _ S1 ⟨rfl, rfl⟩
  try simp only [↓stU, stD, reduceEqDiff, ↓reduceIte]
  refine wsr ?_
  simp only [↓stU, stD, reduceEqDiff, ↓reduceIte]
  rcases findByte_spec 47 s 0 with ⟨i, h1, h2, h3, h4⟩ | ⟨h1, h2⟩
  · have hsl : slashAt s = i := firstP_eq h1 h3 h2
    rw [Nat.zero_add] at h4
    rw [h4]
    refine wpc_yes (by simp only [↓stU, stD, reduceEqDiff, ↓reduceIte, decide_eq_true (show (0 : Int) ≤ ((i : Nat) : Int) by omega)]) ?_
    have hl : ((([47] : List Nat).length : Nat) : Int) = 1 := rfl
    have w1 : IntKind.i64.wrap ((i : Int) + 1) = ((i + 1 : Nat) : Int) := by rw [wrap_i64 (by omega) (by omega)]; omega
    have e1 : ∀ F : Fr, tmpV 14 F = .int .i64 (i : Int) → slcV .str (.str s) none (some (.t 14)) none F = some (.str (above s)) := fun F h => by rw [slc_hi (j := i) (by rw [val_t, h, natOf_cast]) (by omega)]; unfold above; rw [hsl]
    have e2 : ∀ F : Fr, tmpV 20 F = .int .i64 ((i + 1 : Nat) : Int) → slcV .str (.str s) (some (.t 20)) none none F = some (.str (below s)) := fun F h => by rw [slc_lo (i := i + 1) (by rw [val_t, h, natOf_cast]) (by omega)]; unfold below; rw [hsl]
    refine wpc_seq (wpc_drq ?_)
    simp only [↓stU, stD, reduceEqDiff, ↓reduceIte, evQ_lenStr, isLoad_lenStr, lenStr_eq, hl, w1, e1, e2]
    refine wpc_ret ?_
    simp only [↓stU, stD, reduceEqDiff, ↓reduceIte]
    rw [hsl, decide_eq_true h1]
    exact ⟨rfl, Same.nx _ _⟩
  · have hsl : ¬ slashAt s < s.length := slash_not h1
    rw [h2]
    refine wpc_non (by simp only [↓stU, stD, reduceEqDiff, ↓reduceIte]; rfl) (wpc_skip ?_)
    try simp only [↓stU, stD, reduceEqDiff, ↓reduceIte]
    refine wsr ?_
    simp only [↓stU, stD, reduceEqDiff, ↓reduceIte]
    refine wpc_ret ?_
    simp only [↓stU, stD, reduceEqDiff, ↓reduceIte]
    have e1 : above s = s := List.take_of_length_le (by omega)
    have e2 : below s = [] := List.drop_of_length_le (by omega)
    rw [e1, e2, decide_eq_false hsl]
    exact ⟨rfl, Same.refl _⟩
theorem cut_spec {S : St} {s : List Nat} (H : Has fns) (hs : s.length ≤ 20000) : wpf fns (.fn 24 [] []) [.str s, .str [47]] S fun r S' => r = .tup [.str (above s), .str (below s), .bool (decide (slashAt s < s.length))] ∧ Same S S' := by
  refine wpf_fn H.f24 (by simp) ?_
  simp only [↓stU, stD, reduceEqDiff, ↓reduceIte]
  refine wsr ?_
  simp only [↓stU, stD, reduceEqDiff, ↓reduceIte]
  refine wsr ?_
  simp only [↓stU, stD, reduceEqDiff, ↓reduceIte]
  refine wpo_call ?_
  simp only [↓stU, stD, reduceEqDiff, ↓reduceIte]
  refine wpf_mono (cutl_spec H hs) ?_
  rintro _ S1 ⟨rfl, hS1⟩
  simp only [↓stU, stD, reduceEqDiff, ↓reduceIte, ex0, ex1, ex2]
  refine wpc_ret ?_
  simp only [↓stU, stD, reduceEqDiff, ↓reduceIte]
  exact hS1
theorem prefix_spec {S : St} {s : List Nat} {c : Nat} (H : Has fns) : wpf fns (.fn 83 [] []) [.str s, .str [c]] S fun r S' => r = .bool (s.head? == some c) ∧ S' = S := by
  have hl : ((([c] : List Nat).length : Nat) : Int) = 1 := rfl
  refine wpf_fn H.f83 (by simp) ?_
  simp only [↓stU, stD, reduceEqDiff, ↓reduceIte]
  refine wsr ?_
  simp only [↓stU, stD, reduceEqDiff, ↓reduceIte]
  refine wsr ?_
  cases s with
  | nil =>
    simp only [↓stU, stD, reduceEqDiff, ↓reduceIte, evQ_lenStr, lenStr_eq, hl, List.length_nil]
    refine wpc_ret ?_
    simp only [↓stU, stD, reduceEqDiff, ↓reduceIte]
    rfl
  | cons b s =>
    have e1 : ∀ F : Fr, tmpV 13 F = .int .i64 1 → slcV .str (.str (b :: s)) none (some (.t 13)) none F = some (.str [b]) := fun F h => by rw [slc_hi (j := 1) (by rw [val_t, h]; rfl) (by simp)]; rfl
    simp only [↓stU, stD, reduceEqDiff, ↓reduceIte, evQ_lenStr, lenStr_eq, hl, decide_eq_true (show (1 : Int) ≤ (((b :: s : List Nat).length : Nat) : Int) by simp; omega), e1, bin_eql_str]
    refine wpc_ret ?_
    simp only [↓stU, stD, reduceEqDiff, ↓reduceIte]
    congr 1
    by_cases h : b = c <;> simp [h]
theorem cutPrefixL_spec {S : St} {s : List Nat} (H : Has fns) : wpf fns (.fn 56 [] []) [.str s, .str [45]] S fun r S' => r = .tup [.str (s.drop (if (s.head? == some 45) = true then 1 else 0)), .bool (s.head? == some 45)] ∧ S' = S := by
  have hl : ((([45] : List Nat).length : Nat) : Int) = 1 := rfl
  refine wpf_fn H.f56 (by simp) ?_
  simp only [↓stU, stD, reduceEqDiff, ↓reduceIte]
  refine wsr ?_
  simp only [↓stU, stD, reduceEqDiff, ↓reduceIte]
  refine wss ?_
  simp only [↓stU, stD, reduceEqDiff, ↓reduceIte]
  refine wpo_call ?_
  simp only [↓stU, stD, reduceEqDiff, ↓reduceIte]
  refine wpf_mono (prefix_spec H) ?_
  rintro _ S1 ⟨rfl, rfl⟩
  simp only [↓stU, stD, reduceEqDiff, ↓reduceIte, un_not]
  cases hh : s.head? == some 45 with
  | false =>
    refine wpc_yes (by simp only [↓stU, stD, reduceEqDiff, ↓reduceIte, hh]; rfl) ?_
    refine wsr ?_
    simp only [↓stU, stD, reduceEqDiff, ↓reduceIte]
    refine wpc_ret ?_
    simp only [↓stU, stD, reduceEqDiff, ↓reduceIte]
    rfl
  | true =>
    refine wpc_non (by simp only [↓stU, stD, reduceEqDiff, ↓reduceIte, hh]; rfl) (wpc_skip ?_)
    try simp only [↓stU, stD, reduceEqDiff, ↓reduceIte]
    have hlen : 1 ≤ s.length := by
      cases s with
      | nil => cases hh
      | cons b s => simp
    have e1 : ∀ F : Fr, tmpV 13 F = .int .i64 1 → slcV .str (.str s) (some (.t 13)) none none F = some (.str (s.drop 1)) := fun F h => slc_lo (i := 1) (by rw [val_t, h]; rfl) hlen
    refine wsr ?_
    simp only [↓stU, stD, reduceEqDiff, ↓reduceIte, evQ_lenStr, lenStr_eq, hl, e1]
    refine wpc_ret ?_
    simp only [↓stU, stD, reduceEqDiff, ↓reduceIte]
theorem cutPrefix_spec {S : St} {s : List Nat} (H : Has fns) : wpf fns (.fn 25 [] []) [.str s, .str [45]] S fun r S' => r = .tup [.str (s.drop (if (s.head? == some 45) = true then 1 else 0)), .bool (s.head? == some 45)] ∧ S' = S := by
  refine wpf_fn H.f25 (by simp) ?_
  simp only [↓stU, stD, reduceEqDiff, ↓reduceIte]
  refine wsr ?_
  simp only [↓stU, stD, reduceEqDiff, ↓reduceIte]
  refine wsr ?_
  simp only [↓stU, stD, reduceEqDiff, ↓reduceIte]
  refine wpo_call ?_
  simp only [↓stU, stD, reduceEqDiff, ↓reduceIte]
  refine wpf_mono (cutPrefixL_spec H) ?_
  rintro _ S1 ⟨rfl, rfl⟩
  simp only [↓stU, stD, reduceEqDiff, ↓reduceIte, ex0, ex1, ex2]
  refine wpc_ret ?_
  simp only [↓stU, stD, reduceEqDiff, ↓reduceIte]
end Go.Ev.Gl

namespace Go.Ev.Gl
variable {fns : T AFn}

/-- the fault of the bytes of a text -/
def strF (s : List Nat) : Int × Int := if oddAt s < s.length then (11, (oddAt s : Int)) else if misAt s < s.length then (11, (misAt s : Int)) else (0, 0)
def OddI (S : St) (b : Nat) (s : List Nat) (k : Nat) (A : Act') (S' : St) : Prop :=
  A.inr = false ∧ S' = S ∧ ∃ i, i + k = s.length ∧ (∀ j, j < i → ¬ isOdd (at' s j)) ∧ tmpV 0 A.F = .str s ∧ tmpV 2 A.F = .ptr b 0 ∧ tmpV 7 A.F = .int .i64 ((s.length : Nat) : Int) ∧ tmpV 8 A.F = .int .i64 (i : Int)
/-- how many strokes stand before a place, two at most told -/
def strokes (s : List Nat) (i : Nat) : Nat := ((s.take i).filter (· == 47)).length
theorem strokes_succ {s : List Nat} {i : Nat} (hi : i < s.length) : strokes s (i + 1) = strokes s i + (if at' s i = 47 then 1 else 0) := by
  unfold strokes
  rw [List.take_add_one, List.getElem?_eq_getElem hi]
  simp only [Option.toList_some, List.filter_append, List.length_append]
  unfold at'
  rw [List.getElem?_eq_getElem hi]
  simp only [Option.getD_some]
  by_cases h : s[i] = 47
  · rw [if_pos h]; simp [h]
  · rw [if_neg h]; simp [h]
theorem strokes_le (s : List Nat) (i : Nat) : strokes s i ≤ i := by
  unfold strokes
  exact Nat.le_trans (List.length_filter_le ..) (by rw [List.length_take]; omega)
theorem strokes_pos {s : List Nat} {i : Nat} (hi : i ≤ s.length) : 0 < strokes s i ↔ ∃ j, j < i ∧ at' s j = 47 := by
  induction i with
  | zero => simp [strokes]
  | succ i ih =>
    rw [strokes_succ (by omega)]
    have ih := ih (by omega)
    constructor
    · intro h
      by_cases h1 : at' s i = 47
      · exact ⟨i, by omega, h1⟩
      · rw [if_neg h1] at h
        obtain ⟨j, h2, h3⟩ := ih.1 (by omega)
        exact ⟨j, by omega, h3⟩
    · rintro ⟨j, h2, h3⟩
      by_cases h1 : at' s i = 47
      · rw [if_pos h1]; omega
      · have : j ≠ i := fun e => h1 (by rw [← e]; exact h3)
        have := ih.2 ⟨j, by omega, h3⟩
        omega
def MisI (S : St) (b : Nat) (s : List Nat) (k : Nat) (A : Act') (S' : St) : Prop :=
  A.inr = false ∧ S' = S ∧ ∃ i, i + k = s.length ∧ (∀ j, j < i → ¬ isMis s j) ∧ tmpV 0 A.F = .str s ∧ tmpV 2 A.F = .ptr b 0 ∧ tmpV 4 A.F = .int .i64 ((strokes s i : Nat) : Int) ∧ tmpV 22 A.F = .int .i64 ((s.length : Nat) : Int) ∧ tmpV 23 A.F = .int .i64 (i : Int)

theorem strange_spec {S : St} {s : List Nat} (H : Has fns) (hs : s.length ≤ 20000) (hb : Bytes s) : wpf fns (.fn 23 [] []) [.str s] S fun r S' => r = .agg [.int .i64 (strF s).1, .int .i64 (strF s).2] ∧ Same S S' := by
  refine wpf_fn H.f23 (by simp) ?_
  simp only [↓stU, stD, reduceEqDiff, ↓reduceIte]
  refine wsr ?_
  simp only [↓stU, stD, reduceEqDiff, ↓reduceIte]
  refine wpo_alloc ?_
  intro S1 s1 n1 c1
  simp only [↓stU, stD, reduceEqDiff, ↓reduceIte]
  refine wpc_seq (wpc_mono (Q := fun o A' X => (o = .normal ∧ OddI S1 S.nx s 0 A' X) ∨ (o = .ret ∧ oddAt s < s.length ∧ tmpV 2 A'.F = .ptr S.nx 0 ∧ SameBut S.nx S1 X ∧ X.h.get S.nx = some (.cells [.int .i64 11, .int .i64 (oddAt s : Int)] false 0))) (wpc_seq (wpc_reg ?_)) ?_)
  · simp only [↓stU, stD, reduceEqDiff, ↓reduceIte, evQ_lenStr, lenStr_eq]
    refine wpc_block (wpc_loop (OddI S1 S.nx s) ?_ s.length _ _ ⟨rfl, rfl, 0, by omega, fun j hj => (by omega), by simp only [↓stU, stD, reduceEqDiff, ↓reduceIte], by simp only [↓stU, stD, reduceEqDiff, ↓reduceIte], by simp only [↓stU, stD, reduceEqDiff, ↓reduceIte], by simp only [↓stU, stD, reduceEqDiff, ↓reduceIte]⟩)
    rintro k ⟨F, inr⟩ X ⟨q0, hX, i, hik, hd, p0, p2, p7, p8⟩
    simp only at q0 p0 p2 p7 p8
    subst q0
    rw [hX]
    refine wsr ?_
    simp only [↓stU, stD, reduceEqDiff, ↓reduceIte, p7, p8]
    by_cases hi : i < s.length
    · refine wpc_seq (wpc_yes (by simp only [↓stU, stD, reduceEqDiff, ↓reduceIte, decide_eq_true (show (i : Int) < ((s.length : Nat) : Int) by omega)]) (wpc_skip ?_))
      simp only [↓stU, stD, reduceEqDiff, ↓reduceIte]
      have w1 : IntKind.i64.wrap ((i : Int) + 1) = ((i + 1 : Nat) : Int) := by rw [wrap_i64 (by omega) (by omega)]; omega
      have hc : at' s i ≤ 255 := by have := hb _ (at_mem hi); omega
      have e1 : ∀ F : Fr, tmpV 12 F = .int .i64 (i : Int) → tmpV 14 F = .int .i64 ((i + 1 : Nat) : Int) → slcV .str (.str s) (some (.t 12)) (some (.t 14)) none F = some (.str [at' s i]) := fun F h1 h2 => by
        rw [str_slc (i := i) (j := i + 1) (by rw [val_t, h1, natOf_cast]) (by rw [val_t, h2, natOf_cast]) (by omega) (by omega)]
        congr 2
        unfold at'
        rw [List.take_add_one, List.getElem?_eq_getElem hi, List.drop_left' (by rw [List.length_take]; omega)]
        rfl
      have hodd : (!decide (at' s i ∈ [48, 49, 50, 51, 52, 53, 54, 55, 56, 57, 45, 47])) = decide (isOdd (at' s i)) := by
        generalize at' s i = c at *
        by_cases h : isOdd c
        · rw [decide_eq_true h, decide_eq_false]
          · rfl
          · unfold isOdd at h
            simp only [List.mem_cons, List.not_mem_nil, or_false]
            omega
        · rw [decide_eq_false h, decide_eq_true]
          · rfl
          · unfold isOdd at h
            simp only [List.mem_cons, List.not_mem_nil, or_false]
            omega
      refine wpc_seq (wpc_block (wpc_seq (wpc_reg ?_)))
      simp only [↓stU, stD, reduceEqDiff, ↓reduceIte, p8]
      refine wsr ?_
      simp only [↓stU, stD, reduceEqDiff, ↓reduceIte, p0, w1, e1]
      refine wpo_call ?_
      simp only [↓stU, stD, reduceEqDiff, ↓reduceIte]
      refine wpf_mono (contains_spec H hc) ?_
      rintro _ S2 ⟨rfl, hS2⟩
      rw [hS2]
      simp only [↓stU, stD, reduceEqDiff, ↓reduceIte, un_not, hodd]
      by_cases h : isOdd (at' s i)
      · have ho : oddAt s = i := firstP_eq hi hd h
        refine wpc_yes (by simp only [↓stU, stD, reduceEqDiff, ↓reduceIte, decide_eq_true h]) ?_
        refine wsr ?_
        simp only [↓stU, stD, reduceEqDiff, ↓reduceIte, evQ_f2, cells_int]
        refine wpo_st (b := S.nx) (by simp only [↓stU, stD, reduceEqDiff, ↓reduceIte, p2]) (by simp only [↓stU, stD, reduceEqDiff, ↓reduceIte, cells_agg]; rfl) c1 rfl rfl ?_
        intro S2 s2 n2 c2
        simp only [↓stU, stD, reduceEqDiff, ↓reduceIte]
        refine wpc_ret ?_
        simp only [↓stU, stD, reduceEqDiff, ↓reduceIte, p2]
        rw [ho]
        exact .inr ⟨hi, s2, c2⟩
      · refine wpc_non (by simp only [↓stU, stD, reduceEqDiff, ↓reduceIte, decide_eq_false h]) (wpc_skip ?_)
        try simp only [↓stU, stD, reduceEqDiff, ↓reduceIte]
        refine wpc_reg ?_
        simp only [↓stU, stD, reduceEqDiff, ↓reduceIte, p8, w1]
        refine ⟨k - 1, by omega, rfl, rfl, i + 1, by omega, fun j hj => ?_, by simp only [↓stU, stD, reduceEqDiff, ↓reduceIte, p0], by simp only [↓stU, stD, reduceEqDiff, ↓reduceIte, p2], by simp only [↓stU, stD, reduceEqDiff, ↓reduceIte, p7], by simp only [↓stU, stD, reduceEqDiff, ↓reduceIte]⟩
        rcases Nat.lt_or_ge j i with h1 | h1
        · exact hd j h1
        · rw [show j = i by omega]; exact h
    · refine wpc_seq (wpc_non (by simp only [↓stU, stD, reduceEqDiff, ↓reduceIte, decide_eq_false (show ¬ (i : Int) < ((s.length : Nat) : Int) by omega)]) (wpc_exit ?_))
      simp only [↓stU, stD, reduceEqDiff, ↓reduceIte]
      exact .inl ⟨rfl, rfl, i, by omega, hd, by simp only [↓stU, stD, reduceEqDiff, ↓reduceIte, p0], by simp only [↓stU, stD, reduceEqDiff, ↓reduceIte, p2], by simp only [↓stU, stD, reduceEqDiff, ↓reduceIte, p7], by simp only [↓stU, stD, reduceEqDiff, ↓reduceIte, p8]⟩
  rintro o ⟨F, inr⟩ X (⟨rfl, q0, hX, i, hik, hd, p0, p2, p7, p8⟩ | ⟨rfl, hodd, p2, hX, hc⟩)
  rotate_left
  · simp only at p2
    unfold strF
    rw [if_pos hodd]
    simp only [↓stU, stD, reduceEqDiff, ↓reduceIte, results_cell, p2, ld2a hc]
    exact hX.same s1 (Nat.le_refl _)
  simp only at q0 p0 p2
  subst q0
  rw [hX]
  have hik : i = s.length := by omega
  subst hik
  unfold strF
  rw [if_neg (odd_not hd)]
  clear p7 p8
  try simp only [↓stU, stD, reduceEqDiff, ↓reduceIte]
  refine wsr ?_
  simp only [↓stU, stD, reduceEqDiff, ↓reduceIte]
  refine wpc_seq (wpc_mono (Q := fun o A' X => (o = .normal ∧ MisI S1 S.nx s 0 A' X) ∨ (o = .ret ∧ misAt s < s.length ∧ tmpV 2 A'.F = .ptr S.nx 0 ∧ SameBut S.nx S1 X ∧ X.h.get S.nx = some (.cells [.int .i64 11, .int .i64 (misAt s : Int)] false 0))) (wpc_seq (wpc_reg ?_)) ?_)
  · simp only [↓stU, stD, reduceEqDiff, ↓reduceIte, p0, evQ_lenStr, lenStr_eq]
    refine wpc_block (wpc_loop (MisI S1 S.nx s) ?_ s.length _ _ ⟨rfl, rfl, 0, by omega, fun j hj => (by omega), by simp only [↓stU, stD, reduceEqDiff, ↓reduceIte, p0], by simp only [↓stU, stD, reduceEqDiff, ↓reduceIte, p2], by simp only [↓stU, stD, reduceEqDiff, ↓reduceIte]; rfl, by simp only [↓stU, stD, reduceEqDiff, ↓reduceIte], by simp only [↓stU, stD, reduceEqDiff, ↓reduceIte]⟩)
    clear p0 p2
    rintro k ⟨F, inr⟩ X ⟨q0, hX, i, hik, hm, p0, p2, p4, p22, p23⟩
    simp only at q0 p0 p2 p4 p22 p23
    subst q0
    rw [hX]
    refine wsr ?_
    simp only [↓stU, stD, reduceEqDiff, ↓reduceIte, p22, p23]
    by_cases hi : i < s.length
    · refine wpc_seq (wpc_yes (by simp only [↓stU, stD, reduceEqDiff, ↓reduceIte, decide_eq_true (show (i : Int) < ((s.length : Nat) : Int) by omega)]) (wpc_skip ?_))
      simp only [↓stU, stD, reduceEqDiff, ↓reduceIte]
      have w1 : IntKind.i64.wrap ((i : Int) + 1) = ((i + 1 : Nat) : Int) := by rw [wrap_i64 (by omega) (by omega)]; omega
      have hix := idxStr_eq hi
      rw [show s[i]?.getD 0 = at' s i from rfl] at hix
      have hsu := strokes_succ hi
      have hsl := strokes_le s i
      have hsp := strokes_pos (s := s) (i := i) (by omega)
      have w2 : IntKind.i64.wrap (((strokes s i : Nat) : Int) + 1) = ((strokes s i + 1 : Nat) : Int) := by rw [wrap_i64 (by omega) (by omega)]; omega
      refine wpc_seq (wpc_block (wpc_seq (wpc_reg ?_)))
      simp only [↓stU, stD, reduceEqDiff, ↓reduceIte, p23]
      refine wpc_seq (wpc_mono (Q := fun o A' X => o = .normal ∧ A'.inr = false ∧ X = S1 ∧ tmpV 0 A'.F = .str s ∧ tmpV 2 A'.F = .ptr S.nx 0 ∧ tmpV 4 A'.F = .int .i64 ((strokes s (i + 1) : Nat) : Int) ∧ tmpV 5 A'.F = .int .i64 (i : Int) ∧ tmpV 22 A'.F = .int .i64 ((s.length : Nat) : Int) ∧ tmpV 23 A'.F = .int .i64 (i : Int)) (wpc_seq (wpc_reg ?_)) ?_)
      · simp only [↓stU, stD, reduceEqDiff, ↓reduceIte, p0, evQ_idxStr, natOf_cast, hix]
        by_cases h : at' s i = 47
        · refine wpc_yes (by simp only [↓stU, stD, reduceEqDiff, ↓reduceIte, decide_eq_true (show ((at' s i : Nat) : Int) = 47 by omega)]) ?_
          refine wpc_reg ?_
          simp only [↓stU, stD, reduceEqDiff, ↓reduceIte, p4, w2, p0, p2, p22, p23]
          rw [hsu, if_pos h]
        · refine wpc_non (by simp only [↓stU, stD, reduceEqDiff, ↓reduceIte, decide_eq_false (show ¬ ((at' s i : Nat) : Int) = 47 by omega)]) (wpc_skip ?_)
          simp only [↓stU, stD, reduceEqDiff, ↓reduceIte, p4, p0, p2, p22, p23]
          rw [hsu, if_neg h, Nat.add_zero]
      clear p0 p2 p4 p22 p23
      rintro o ⟨F, inr⟩ X ⟨rfl, q0, hX, p0, p2, p4, p5, p22, p23⟩
      simp only at q0 p0 p2 p4 p5 p22 p23
      subst q0
      rw [hX]
      try simp only [↓stU, stD, reduceEqDiff, ↓reduceIte]
      refine wpc_seq (wpc_mono (Q := fun o A' X => o = .normal ∧ A'.inr = false ∧ X = S1 ∧ tmpV 0 A'.F = .str s ∧ tmpV 2 A'.F = .ptr S.nx 0 ∧ tmpV 4 A'.F = .int .i64 ((strokes s (i + 1) : Nat) : Int) ∧ tmpV 5 A'.F = .int .i64 (i : Int) ∧ tmpV 22 A'.F = .int .i64 ((s.length : Nat) : Int) ∧ tmpV 23 A'.F = .int .i64 (i : Int) ∧ tmpV 49 A'.F = .bool (decide (isMis s i))) (wpc_reg ?_) ?_)
      · have hmis : isMis s i ↔ (at' s i = 45 ∧ 0 < i) ∨ (at' s i = 47 ∧ 1 < strokes s (i + 1)) := by
          unfold isMis
          rw [← hsp, hsu]
          by_cases h : at' s i = 47
          · rw [if_pos h]; omega
          · rw [if_neg h]; omega
        have hd : decide (isMis s i) = decide ((at' s i = 45 ∧ 0 < i) ∨ (at' s i = 47 ∧ 1 < strokes s (i + 1))) := by rw [Bool.eq_iff_iff, decide_eq_true_iff, decide_eq_true_iff]; exact hmis
        rw [hd]
        generalize strokes s (i + 1) = t at *
        generalize at' s i = c at *
        by_cases h45 : c = 45
        · by_cases hi0 : 0 < i
          · simp only [↓stU, stD, reduceEqDiff, ↓reduceIte, p0, p2, p4, p5, p22, p23, evQ_idxStr, natOf_cast, hix, decide_eq_true (show ((c : Nat) : Int) = 45 by omega), decide_eq_true (show (0 : Int) < (i : Int) by omega)]
            simp [hi0, h45]
          · simp only [↓stU, stD, reduceEqDiff, ↓reduceIte, p0, p2, p4, p5, p22, p23, evQ_idxStr, natOf_cast, hix, decide_eq_true (show ((c : Nat) : Int) = 45 by omega), decide_eq_false (show ¬ (0 : Int) < (i : Int) by omega), decide_eq_false (show ¬ ((c : Nat) : Int) = 47 by omega)]
            simp [hi0, h45]
        · by_cases h47 : c = 47
          · by_cases ht : 1 < t
            · simp only [↓stU, stD, reduceEqDiff, ↓reduceIte, p0, p2, p4, p5, p22, p23, evQ_idxStr, natOf_cast, hix, decide_eq_false (show ¬ ((c : Nat) : Int) = 45 by omega), decide_eq_true (show ((c : Nat) : Int) = 47 by omega), decide_eq_true (show (1 : Int) < (t : Int) by omega)]
              simp [ht, h47, h45]
            · simp only [↓stU, stD, reduceEqDiff, ↓reduceIte, p0, p2, p4, p5, p22, p23, evQ_idxStr, natOf_cast, hix, decide_eq_false (show ¬ ((c : Nat) : Int) = 45 by omega), decide_eq_true (show ((c : Nat) : Int) = 47 by omega), decide_eq_false (show ¬ (1 : Int) < (t : Int) by omega)]
              simp [ht, h47, h45]
          · simp only [↓stU, stD, reduceEqDiff, ↓reduceIte, p0, p2, p4, p5, p22, p23, evQ_idxStr, natOf_cast, hix, decide_eq_false (show ¬ ((c : Nat) : Int) = 45 by omega), decide_eq_false (show ¬ ((c : Nat) : Int) = 47 by omega)]
            simp [h45, h47]
      clear p0 p2 p4 p5 p22 p23
      rintro o ⟨F, inr⟩ X ⟨rfl, q0, hX, p0, p2, p4, p5, p22, p23, p49⟩
      simp only at q0 p0 p2 p4 p5 p22 p23 p49
      subst q0
      rw [hX]
      try simp only [↓stU, stD, reduceEqDiff, ↓reduceIte]
      by_cases h : isMis s i
      · have ho : misAt s = i := firstP_eq hi hm h
        refine wpc_yes (by simp only [↓stU, stD, reduceEqDiff, ↓reduceIte, p49, decide_eq_true h]) ?_
        refine wsr ?_
        simp only [↓stU, stD, reduceEqDiff, ↓reduceIte, p5, evQ_f2, cells_int]
        refine wpo_st (b := S.nx) (by simp only [↓stU, stD, reduceEqDiff, ↓reduceIte, p2]) (by simp only [↓stU, stD, reduceEqDiff, ↓reduceIte, cells_agg]; rfl) c1 rfl rfl ?_
        intro S2 s2 n2 c2
        simp only [↓stU, stD, reduceEqDiff, ↓reduceIte]
        refine wpc_ret ?_
        simp only [↓stU, stD, reduceEqDiff, ↓reduceIte, p2]
        rw [ho]
        exact .inr ⟨hi, s2, c2⟩
      · refine wpc_non (by simp only [↓stU, stD, reduceEqDiff, ↓reduceIte, p49, decide_eq_false h]) (wpc_skip ?_)
        try simp only [↓stU, stD, reduceEqDiff, ↓reduceIte]
        refine wpc_reg ?_
        simp only [↓stU, stD, reduceEqDiff, ↓reduceIte, p23, w1]
        refine ⟨k - 1, by omega, rfl, rfl, i + 1, by omega, fun j hj => ?_, by simp only [↓stU, stD, reduceEqDiff, ↓reduceIte, p0], by simp only [↓stU, stD, reduceEqDiff, ↓reduceIte, p2], by simp only [↓stU, stD, reduceEqDiff, ↓reduceIte, p4], by simp only [↓stU, stD, reduceEqDiff, ↓reduceIte, p22], by simp only [↓stU, stD, reduceEqDiff, ↓reduceIte]⟩
        rcases Nat.lt_or_ge j i with h1 | h1
        · exact hm j h1
        · rw [show j = i by omega]; exact h
    · refine wpc_seq (wpc_non (by simp only [↓stU, stD, reduceEqDiff, ↓reduceIte, decide_eq_false (show ¬ (i : Int) < ((s.length : Nat) : Int) by omega)]) (wpc_exit ?_))
      simp only [↓stU, stD, reduceEqDiff, ↓reduceIte]
      exact .inl ⟨rfl, rfl, i, by omega, hm, by simp only [↓stU, stD, reduceEqDiff, ↓reduceIte, p0], by simp only [↓stU, stD, reduceEqDiff, ↓reduceIte, p2], by simp only [↓stU, stD, reduceEqDiff, ↓reduceIte, p4], by simp only [↓stU, stD, reduceEqDiff, ↓reduceIte, p22], by simp only [↓stU, stD, reduceEqDiff, ↓reduceIte, p23]⟩
  clear p0 p2
  rintro o ⟨F, inr⟩ X (⟨rfl, q0, hX, i, hik, hm, p0, p2, p4, p22, p23⟩ | ⟨rfl, hmis, p2, hX, hc⟩)
  rotate_left
  · simp only at p2
    rw [if_pos hmis]
    simp only [↓stU, stD, reduceEqDiff, ↓reduceIte, results_cell, p2, ld2a hc]
    exact hX.same s1 (Nat.le_refl _)
  simp only at q0 p2
  subst q0
  rw [hX]
  have hik : i = s.length := by omega
  subst hik
  rw [if_neg (mis_not hm)]
  try simp only [↓stU, stD, reduceEqDiff, ↓reduceIte]
  refine wsr ?_
  simp only [↓stU, stD, reduceEqDiff, ↓reduceIte, evQ_f0]
  refine wpo_st (b := S.nx) (by simp only [↓stU, stD, reduceEqDiff, ↓reduceIte, p2]) (by simp only [↓stU, stD, reduceEqDiff, ↓reduceIte, cells_agg]; rfl) c1 rfl rfl ?_
  intro S2 s2 n2 c2
  simp only [↓stU, stD, reduceEqDiff, ↓reduceIte]
  refine wpc_ret ?_
  simp only [↓stU, stD, reduceEqDiff, ↓reduceIte, results_cell, p2, ld2a c2]
  exact s2.same s1 (Nat.le_refl _)
end Go.Ev.Gl

namespace Go.Ev.Gl
variable {fns : T AFn}

theorem bin_add_str (e : EqT) {a b : List Nat} (h : a.length + b.length ≤ 9223372036854775807) : binV .add e (.str a) (.str b) = some (.str (a ++ b)) := by
  show bsel (Nat.ble (lenL a + lenL b) 9223372036854775807) (some (AV.str (appL a b))) none = _
  rw [lenL_eq, lenL_eq, Nat.ble_eq_true_of_le h, bsel_true, appL_eq]
theorem one_iff {l : List Nat} (h : Norm l) : l = [1] ↔ val l = 1 := by
  constructor
  · intro e; rw [e]; rfl
  · intro e
    have hl : l.length ≤ 1 := len_le h (by rw [e, Nat.pow_one]; unfold B; decide)
    cases l with
    | nil => rw [val_nil] at e; cases e
    | cons x t =>
      have : t = [] := List.length_eq_zero_iff.1 (by rw [List.length_cons] at hl; omega)
      subst this
      rw [val_cons, val_nil] at e
      simp at e
      rw [e]
theorem isOneN {S : St} {v : AV} {n : Nat} (H : Has fns) (h : NatIs S v n) : wpf fns (.fn 19 [] []) [v] S fun r S' => r = .bool (decide (n = 1)) ∧ S' = S := by
  obtain ⟨l, h1, h2, rfl⟩ := h
  refine wpf_mono (isOne H.f19 h1) ?_
  rintro _ S1 ⟨rfl, rfl⟩
  refine ⟨?_, rfl⟩
  congr 1
  rw [Bool.eq_iff_iff, decide_eq_true_iff, decide_eq_true_iff]
  exact one_iff h2
/-- the text of a rational number -/
def IsRatT (s : List Nat) (q : Rat) : Prop := ∃ d e, IsDec d q.num.natAbs ∧ d.length ≤ 9216 ∧ IsDec e q.den ∧ e.length ≤ 9216 ∧ s = sgT (decide (q.num < 0)) ++ d ++ (if q.den = 1 then [] else 47 :: e)

theorem rtext_spec {S : St} {v : AV} {q : Rat} (H : Has fns) (hL : Laid S) (hT : DigT S) (h : RatIs S v q) (hq : InBound q) : wpf fns (.fn 6 [] []) [v] S fun r S' => ∃ s, r = .tup [.str s, .int .i64 0] ∧ IsRatT s q ∧ Same S S' := by
  obtain ⟨nv, dv, rfl, hnv, hdv⟩ := id h
  refine wpf_fn H.f6 (by simp) ?_
  simp only [↓stU, stD, reduceEqDiff, ↓reduceIte]
  refine wsr ?_
  refine wpo_box (by simp only [↓stU, stD, reduceEqDiff, ↓reduceIte, cells_agg]; rfl) ?_
  intro S1 s1 n1 c1
  simp only [↓stU, stD, reduceEqDiff, ↓reduceIte]
  refine wss ?_
  simp only [↓stU, stD, reduceEqDiff, ↓reduceIte, ld3 c1]
  refine wpo_call ?_
  simp only [↓stU, stD, reduceEqDiff, ↓reduceIte]
  refine wpf_mono (check_ok H (hL.same s1) (h.same s1) hq) ?_
  rintro _ S2 ⟨rfl, hS2⟩
  try simp only [↓stU, stD, reduceEqDiff, ↓reduceIte]
  refine wsr ?_
  simp only [↓stU, stD, reduceEqDiff, ↓reduceIte]
  refine wpc_non (by simp only [↓stU, stD, reduceEqDiff, ↓reduceIte]; rfl) (wpc_skip ?_)
  try simp only [↓stU, stD, reduceEqDiff, ↓reduceIte]
  have s2 := s1.trans hS2
  have c2 : S2.h.get S.nx = some (.cells [.bool (decide (q.num < 0)), nv, dv] false 0) := by rw [hS2.2 _ (by omega)]; exact c1
  refine wsr ?_
  simp only [↓stU, stD, reduceEqDiff, ↓reduceIte, evQ_faddr, faddr_ptr, ld3_1 c2]
  refine wpo_call ?_
  simp only [↓stU, stD, reduceEqDiff, ↓reduceIte]
  refine wpf_mono (ptext_spec H (hT.same s2) (hnv.same s2) hq.1) ?_
  rintro _ S3 ⟨d, rfl, hd, hdl, hS3⟩
  simp only [↓stU, stD, reduceEqDiff, ↓reduceIte, ex0, ex1]
  refine wss ?_
  simp only [↓stU, stD, reduceEqDiff, ↓reduceIte]
  refine wpc_non (by simp only [↓stU, stD, reduceEqDiff, ↓reduceIte]; rfl) (wpc_skip ?_)
  try simp only [↓stU, stD, reduceEqDiff, ↓reduceIte]
  have s3 := s2.trans hS3
  have c3 : S3.h.get S.nx = some (.cells [.bool (decide (q.num < 0)), nv, dv] false 0) := by rw [hS3.2 _ (by have := hS2.1; omega)]; exact c2
  refine wpc_seq (wpc_mono (Q := fun o A' X => o = .normal ∧ A'.inr = false ∧ X = S3 ∧ tmpV 1 A'.F = .ptr S.nx 0 ∧ tmpV 5 A'.F = .str (sgT (decide (q.num < 0)) ++ d)) (wpc_seq (wpc_reg ?_)) ?_)
  · simp only [↓stU, stD, reduceEqDiff, ↓reduceIte, evQ_faddr, faddr_ptr, ld3_0 c3]
    cases hb : decide (q.num < 0) with
    | true =>
      refine wpc_yes (by simp only [↓stU, stD, reduceEqDiff, ↓reduceIte, hb]) ?_
      refine wpc_reg ?_
      simp only [↓stU, stD, reduceEqDiff, ↓reduceIte, bin_add_str (.p .str) (a := [45]) (b := d) (by simp; omega)]
      rfl
    | false =>
      refine wpc_non (by simp only [↓stU, stD, reduceEqDiff, ↓reduceIte, hb]) (wpc_skip ?_)
      simp only [↓stU, stD, reduceEqDiff, ↓reduceIte]
      rfl
  rintro o ⟨F, inr⟩ X ⟨rfl, q0, hX, p1, p5⟩
  simp only at q0 p1 p5
  subst q0
  rw [hX]
  try simp only [↓stU, stD, reduceEqDiff, ↓reduceIte]
  refine wss ?_
  simp only [↓stU, stD, reduceEqDiff, ↓reduceIte, p1, evQ_faddr, faddr_ptr, ld3_2 c3]
  refine wpo_call ?_
  simp only [↓stU, stD, reduceEqDiff, ↓reduceIte]
  refine wpf_mono (isOneN H (hdv.same s3)) ?_
  rintro _ S4 ⟨rfl, hS4⟩
  rw [hS4]
  try simp only [↓stU, stD, reduceEqDiff, ↓reduceIte]
  by_cases h1 : q.den = 1
  · refine wpc_yes (by simp only [↓stU, stD, reduceEqDiff, ↓reduceIte, decide_eq_true h1]) ?_
    refine wsr ?_
    simp only [↓stU, stD, reduceEqDiff, ↓reduceIte, p5]
    refine wpc_ret ?_
    simp only [↓stU, stD, reduceEqDiff, ↓reduceIte]
    refine ⟨_, rfl, ⟨d, [49], hd, hdl, ?_, by simp, by rw [if_pos h1]; simp⟩, s3⟩
    rw [h1]
    exact ⟨fun c hc => by simp at hc; omega, by simp, rfl, fun h => by cases h⟩
  · refine wpc_non (by simp only [↓stU, stD, reduceEqDiff, ↓reduceIte, decide_eq_false h1]) (wpc_skip ?_)
    try simp only [↓stU, stD, reduceEqDiff, ↓reduceIte]
    refine wsr ?_
    simp only [↓stU, stD, reduceEqDiff, ↓reduceIte, p1, evQ_faddr, faddr_ptr, ld3_2 c3]
    refine wpo_call ?_
    simp only [↓stU, stD, reduceEqDiff, ↓reduceIte]
    refine wpf_mono (ptext_spec H (hT.same s3) (hdv.same s3) hq.2) ?_
    rintro _ S5 ⟨e, rfl, he, hel, hS5⟩
    simp only [↓stU, stD, reduceEqDiff, ↓reduceIte, ex0, ex1]
    refine wss ?_
    simp only [↓stU, stD, reduceEqDiff, ↓reduceIte]
    refine wpc_non (by simp only [↓stU, stD, reduceEqDiff, ↓reduceIte]; rfl) (wpc_skip ?_)
    try simp only [↓stU, stD, reduceEqDiff, ↓reduceIte]
    have hsl : (sgT (decide (q.num < 0))).length ≤ 1 := by rw [sgT_len]; split <;> omega
    refine wsr ?_
    simp only [↓stU, stD, reduceEqDiff, ↓reduceIte, p5, bin_add_str (.p .str) (a := sgT (decide (q.num < 0)) ++ d) (b := [47]) (by simp; omega), bin_add_str (.p .str) (a := sgT (decide (q.num < 0)) ++ d ++ [47]) (b := e) (by simp; omega)]
    refine wpc_ret ?_
    simp only [↓stU, stD, reduceEqDiff, ↓reduceIte]
    exact ⟨_, rfl, ⟨d, e, hd, hdl, he, hel, by rw [if_neg h1]; simp⟩, s3.trans hS5⟩
end Go.Ev.Gl

namespace Go.Ev.Gl
variable {fns : T AFn}

/-! ## A text as a rational number: the program's Parse -/
def ratG (s : List Nat) : Int × Int :=
  if (natF (digitsIn s)).1 ≠ 0 then ((natF (digitsIn s)).1, (natF (digitsIn s)).2 + (if negIn s then 1 else 0)) else
  if slashAt s < s.length ∧ (natF (below s)).1 ≠ 0 then ((natF (below s)).1, (natF (below s)).2 + ((slashAt s : Int) + 1)) else
  if slashAt s < s.length ∧ decVal (below s) = 0 then (6, (slashAt s : Int) + 1) else (0, 0)
theorem ratF_long {s : List Nat} (h : 20000 < s.length) : ratF s = (4, 20000) := by unfold ratF; rw [if_pos h]
theorem ratF_str {s : List Nat} (h : ¬ 20000 < s.length) (h1 : (strF s).1 ≠ 0) : ratF s = strF s := by
  unfold ratF
  rw [if_neg h]
  unfold strF at h1 ⊢
  split
  · rfl
  · split
    · rfl
    · rename_i a b; rw [if_neg a, if_neg b] at h1; exact absurd rfl h1
theorem ratF_rest {s : List Nat} (h : ¬ 20000 < s.length) (h1 : (strF s).1 = 0) : ratF s = ratG s := by
  unfold ratF ratG
  rw [if_neg h]
  unfold strF at h1
  split at h1
  · cases h1
  · split at h1
    · cases h1
    · rename_i a b; rw [if_neg a, if_neg b]
theorem natF_snd (s : List Nat) : 0 ≤ (natF s).2 ∧ (natF s).2 ≤ 9216 := by
  unfold natF
  split
  · simp
  · split
    · simp only; omega
    · split <;> simp
theorem natF_zero {s : List Nat} (h : (natF s).1 = 0) : decVal s < B ^ 1024 := by
  unfold natF at h
  split at h
  · cases h
  · split at h
    · cases h
    · rename_i h1 h2
      exact Nat.lt_of_lt_of_le (decVal_lt (badAt_digits.1 h2)) (Nat.le_trans (Nat.pow_le_pow_right (by decide) (show s.length ≤ 9 * 1024 by omega)) (Nat.le_of_eq (pow9 1024)))

def zeroR : List AV := [.bool false, .nilsl, .nilsl]
theorem st2_1 {S : St} {b : Nat} {x y v : AV} {o : Bool} {s : Nat} (h : S.h.get b = some (.cells [x, y] o s)) : xStV (.ptr b (0 + 1)) 1 [v] S = some (.undef, ⟨S.h.set b (some (.cells [x, v] o s)), S.nx⟩) := by
  simp only [xStV, storeN, h, osel_some, storeB]
  rfl
theorem evQ_zr {F : Fr} {h : T AB} : evQ (.build [.bool false, .nilsl, .nilsl] []) F h = some (.agg zeroR) := rfl
theorem agg2_self {x y : AV} (h1 : sameV x x = true) (h2 : sameV y y = true) : sameV (.agg [x, y]) (.agg [x, y]) = true := by
  simp only [sameV, sameVs, h1, h2, bsel_true]
theorem fault_out {i j c b2 b3 b4 : Nat} {e a : Int} {A : Act'} {S S0 : St} {Q : Out → Act' → St → Prop} (hij : i ≠ j) (h2i : 2 ≠ i) (h2j : 2 ≠ j) (h3i : 3 ≠ i) (h3j : 3 ≠ j) (hci : c ≠ i)
    (p2 : tmpV 2 A.F = .ptr b2 0) (p3 : tmpV 3 A.F = .ptr b3 0) (pc : tmpV c A.F = .ptr b4 0) (g2 : S.h.get b2 = some (.cells zeroR false 0)) (g3 : S.h.get b3 = some (.cells [.int .i64 0, .int .i64 0] false 0)) (g4 : S.h.get b4 = some (.cells [.int .i64 e, .int .i64 a] false 0))
    (h02 : S0.nx ≤ b2) (h03 : S0.nx ≤ b3) (l2 : b2 < S.nx) (l3 : b3 < S.nx) (l4 : b4 < S.nx) (h23 : b2 ≠ b3) (h42 : b4 ≠ b2) (h43 : b4 ≠ b3) (hS : Same S0 S)
    (hQ : ∀ F' S', Same S0 S' → tmpV 2 F' = .ptr b2 0 → tmpV 3 F' = .ptr b3 0 → S'.h.get b2 = some (.cells zeroR false 0) → S'.h.get b3 = some (.cells [.int .i64 e, .int .i64 a] false 0) → Q .ret ⟨F', A.inr⟩ S') :
    wpc fns (.seq (.drw [⟨some i, .q (.build [(.bool false), .nilsl, .nilsl] []), none, 0⟩, ⟨some j, .q (.ld true 2 (.t c)), none, 0⟩, ⟨none, .x (.st 3 (.t 2) (.t i)), none, 1⟩, ⟨none, .x (.st 2 (.t 3) (.t j)), none, 7⟩]) .ret) A S Q := by
  refine wpc_seq (wpc_drd1 (fun b => b = b2 ∨ b = b3) ?_)
  intro S1 hS1
  have g2' : S1.h.get b2 = some (.cells zeroR false 0) := by rw [hS1.2 _ l2]; exact g2
  have g3' : S1.h.get b3 = some (.cells [.int .i64 0, .int .i64 0] false 0) := by rw [hS1.2 _ l3]; exact g3
  have hold : OldP (fun b => b = b2 ∨ b = b3) S.nx (.ptr b4 0) := ⟨b4, 0, rfl, l4, fun h => h.elim h42 h43⟩
  have e1 : tmpV c (putF (some i) A.F (.agg zeroR)) = .ptr b4 0 := by rw [tmpV_putF, if_neg hci]; exact pc
  simp only [↓stU, stD, reduceEqDiff, ↓reduceIte, ↓stV, stW, Nat.reduceAdd, evQ_zr, isLoad_build, e1, ld2a g4, hold]
  refine ⟨agg2_self (same_int ..) (same_int ..), ?_⟩
  refine runD_st0 rfl (by rw [val_t, tmpV_putF, if_neg h2j, tmpV_putF, if_neg h2i]; exact p2) (by rw [val_t, tmpV_putF, if_neg hij, tmpV_putF, if_pos rfl]; exact cells_agg _) g2' rfl rfl (.inl rfl) ?_
  intro S2 s2 n2 c2
  have g3'' : S2.h.get b3 = some (.cells [.int .i64 0, .int .i64 0] false 0) := by rw [s2.2 _ (Nat.lt_of_lt_of_le l3 hS1.1) (Ne.symm h23)]; exact g3'
  refine runD_st0 rfl (by rw [val_t, tmpV_putF, if_neg h3j, tmpV_putF, if_neg h3i]; exact p3) (by rw [val_t, tmpV_putF, if_pos rfl]; exact cells_agg _) g3'' rfl rfl (.inr rfl) ?_
  intro S3 s3 n3 c3
  have c2' : S3.h.get b2 = some (.cells zeroR false 0) := by rw [s3.2 _ (by rw [n2]; exact Nat.lt_of_lt_of_le l2 hS1.1) h23]; exact c2
  simp only [↓stU, stD, reduceEqDiff, ↓reduceIte, ↓stV, stW, Nat.reduceAdd]
  refine wpc_ret ?_
  exact hQ _ _ (s3.same (s2.same (hS.trans hS1) h02) h03) (by rw [tmpV_putF, if_neg h2j, tmpV_putF, if_neg h2i]; exact p2) (by rw [tmpV_putF, if_neg h3j, tmpV_putF, if_neg h3i]; exact p3) c2' c3

/-- the result, a fault's -/
def OutP (S0 : St) (b2 b3 : Nat) (s : List Nat) (A : Act') (X : St) : Prop :=
  Same S0 X ∧ tmpV 2 A.F = .ptr b2 0 ∧ tmpV 3 A.F = .ptr b3 0 ∧ X.h.get b2 = some (.cells zeroR false 0) ∧ X.h.get b3 = some (.cells [.int .i64 (ratF s).1, .int .i64 (ratF s).2] false 0) ∧ (ratF s).1 ≠ 0
/-- behind the denominator -/
def DenP (S : St) (s : List Nat) (u : AV) (A : Act') (X : St) : Prop :=
  A.inr = false ∧ Same S X ∧ X.h.get S.nx = some (.cells zeroR false 0) ∧ X.h.get (S.nx + 1) = some (.cells [.int .i64 0, .int .i64 0] false 0) ∧ S.nx + 1 < X.nx ∧ NatIs X u (numIn s) ∧ numIn s < B ^ 1024 ∧ (∃ dv, tmpV 12 A.F = dv ∧ NatIs X dv (denIn s)) ∧ denIn s < B ^ 1024 ∧
    tmpV 2 A.F = .ptr S.nx 0 ∧ tmpV 3 A.F = .ptr (S.nx + 1) 0 ∧ tmpV 5 A.F = .str (above s) ∧ tmpV 9 A.F = .bool (negIn s) ∧ tmpV 10 A.F = u ∧ ratF s = if slashAt s < s.length ∧ decVal (below s) = 0 then (6, (slashAt s : Int) + 1) else (0, 0)
end Go.Ev.Gl

namespace Go.Ev.Gl
variable {fns : T AFn}

theorem outP_ret {S X : St} {s : List Nat} {A : Act'} (h : OutP S S.nx (S.nx + 1) s A X) : retQ [(.cell 2 true 3), (.cell 3 true 2)] (fun r S' => ∃ v, r = .tup [v, .agg [.int .i64 (ratF s).1, .int .i64 (ratF s).2]] ∧ ((ratF s).1 = 0 → RatIs S' v (mkRat (sg (negIn s) (numIn s)) (denIn s))) ∧ ((ratF s).1 ≠ 0 → v = .agg zeroR) ∧ Same S S') .ret A X := by
  obtain ⟨hS, p2, p3, g2, g3, hne⟩ := h
  have l2 := ld3 (show X.h.get S.nx = some (.cells [.bool false, .nilsl, .nilsl] false 0) from g2)
  simp only [↓stU, stD, reduceEqDiff, ↓reduceIte, results_cell, p2, p3, l2, ld2a g3]
  exact ⟨_, rfl, fun h => absurd h hne, fun _ => rfl, hS⟩
theorem above_len (s : List Nat) : (above s).length = slashAt s := by unfold above; rw [List.length_take]; have := slash_le s; omega
theorem digits_len (s : List Nat) : ((above s).length : Int) - ((digitsIn s).length : Int) = if negIn s then 1 else 0 := by
  unfold digitsIn negIn
  rw [List.length_drop]
  cases h : (above s).head? == some 45 with
  | false => simp
  | true =>
    have : 0 < (above s).length := by
      cases ha : above s with
      | nil => rw [ha] at h; cases h
      | cons _ _ => simp
    simp only [if_true]
    omega
theorem one_ltB {K : Nat} (h : K ≠ 0) : 1 < B ^ K := Nat.one_lt_pow h (by unfold B; decide)
theorem NatIs.lenZ {S : St} {v : AV} {n : Nat} (h : NatIs S v n) : ∃ k : Nat, lenSlV v = some (.int .i64 (k : Int)) ∧ (k = 0 ↔ n = 0) := by
  obtain ⟨l, h1, h2, rfl⟩ := h
  refine ⟨l.length, h1.len, ?_⟩
  rw [List.length_eq_zero_iff]
  exact ⟨fun e => by rw [e]; rfl, fun e => (norm_zero h2).1 e⟩

set_option maxRecDepth 10000 in
set_option maxHeartbeats 4000000 in
theorem rparse_spec {S : St} {s : List Nat} (H : Has fns) (hL : Laid S) (hb : Bytes s) : wpf fns (.fn 8 [] []) [.str s] S fun r S' => ∃ v, r = .tup [v, .agg [.int .i64 (ratF s).1, .int .i64 (ratF s).2]] ∧ ((ratF s).1 = 0 → RatIs S' v (mkRat (sg (negIn s) (numIn s)) (denIn s))) ∧ ((ratF s).1 ≠ 0 → v = .agg zeroR) ∧ Same S S' := by
  refine wpf_fn H.f8 (by simp) ?_
  simp only [↓stU, stD, reduceEqDiff, ↓reduceIte]
  refine wsr ?_
  refine wpo_alloc ?_
  intro S1 s1 n1 c1
  refine wpo_alloc ?_
  intro S2 s2 n2 c2
  simp only [↓stU, stD, reduceEqDiff, ↓reduceIte]
  have hS2 := s1.trans s2
  have gA : S2.h.get S.nx = some (.cells zeroR false 0) := by rw [s2.2 _ (by omega)]; exact c1
  rw [n1] at c2 n2
  refine wss ?_
  simp only [↓stU, stD, reduceEqDiff, ↓reduceIte, evQ_lenStr, lenStr_eq, n1]
  by_cases hlong : 20000 < s.length
  · refine wpc_yes (by simp only [↓stU, stD, reduceEqDiff, ↓reduceIte, decide_eq_true (show (20000 : Int) < ((s.length : Nat) : Int) by omega)]) ?_
    refine wsr ?_
    simp only [↓stU, stD, reduceEqDiff, ↓reduceIte, evQ_zr, evQ_f2, cells_int]
    refine wpo_st (b := S.nx) (by simp only [↓stU, stD, reduceEqDiff, ↓reduceIte]) (by simp only [↓stU, stD, reduceEqDiff, ↓reduceIte]; exact cells_agg _) gA rfl rfl ?_
    intro S3 s3 n3 c3
    refine wpo_st (b := S.nx + 1) (by simp only [↓stU, stD, reduceEqDiff, ↓reduceIte]) (by simp only [↓stU, stD, reduceEqDiff, ↓reduceIte]; exact cells_agg _) (by rw [s3.2 _ (by omega) (by omega)]; exact c2) rfl rfl ?_
    intro S4 s4 n4 c4
    simp only [↓stU, stD, reduceEqDiff, ↓reduceIte]
    refine wpc_ret ?_
    refine outP_ret ⟨s4.same (s3.same hS2 (Nat.le_refl _)) (by omega), by simp only [↓stU, stD, reduceEqDiff, ↓reduceIte], by simp only [↓stU, stD, reduceEqDiff, ↓reduceIte], by rw [s4.2 _ (by omega) (by omega)]; exact c3, by rw [ratF_long hlong]; exact c4, by rw [ratF_long hlong]; simp⟩
  refine wpc_non (by simp only [↓stU, stD, reduceEqDiff, ↓reduceIte, decide_eq_false (show ¬ (20000 : Int) < ((s.length : Nat) : Int) by omega)]) (wpc_skip ?_)
  try simp only [↓stU, stD, reduceEqDiff, ↓reduceIte]
  refine wss ?_
  simp only [↓stU, stD, reduceEqDiff, ↓reduceIte]
  refine wpo_call ?_
  simp only [↓stU, stD, reduceEqDiff, ↓reduceIte]
  refine wpf_mono (strange_spec H (by omega) hb) ?_
  rintro _ S3 ⟨rfl, hS3⟩
  refine wpo_alloc ?_
  intro S4 s4 n4 c4
  refine wpo_st (b := S3.nx) (by simp only [↓stU, stD, reduceEqDiff, ↓reduceIte]) (by simp only [↓stU, stD, reduceEqDiff, ↓reduceIte]; exact cells_agg _) c4 rfl rfl ?_
  intro S5 s5 n5 c5
  simp only [↓stU, stD, reduceEqDiff, ↓reduceIte]
  have hS25 : Same S2 S5 := s5.same (hS3.trans s4) hS3.1
  have hS5 := hS2.trans hS25
  have gA5 : S5.h.get S.nx = some (.cells zeroR false 0) := by rw [hS25.2 _ (by omega)]; exact gA
  have gB5 : S5.h.get (S.nx + 1) = some (.cells [.int .i64 0, .int .i64 0] false 0) := by rw [hS25.2 _ (by omega)]; exact c2
  have lt5 : S.nx + 1 < S5.nx := Nat.lt_of_lt_of_le (by omega) hS25.1
  have lt35 : S3.nx < S5.nx := by omega
  have le23 := hS3.1
  refine wsr ?_
  simp only [↓stU, stD, reduceEqDiff, ↓reduceIte, evQ_faddr, faddr_ptr, ld2_0 c5]
  by_cases hstr : (strF s).1 = 0
  rotate_left
  · refine wpc_yes (by simp only [↓stU, stD, reduceEqDiff, ↓reduceIte, decide_eq_true hstr]) ?_
    refine fault_out (S0 := S) (b2 := S.nx) (b3 := S.nx + 1) (b4 := S3.nx) (by decide) (by decide) (by decide) (by decide) (by decide) (by decide) (by simp only [↓stU, stD, reduceEqDiff, ↓reduceIte]) (by simp only [↓stU, stD, reduceEqDiff, ↓reduceIte]) (by simp only [↓stU, stD, reduceEqDiff, ↓reduceIte]) gA5 gB5 c5 (Nat.le_refl _) (by omega) (by omega) (by omega) lt35 (by omega) (by omega) (by omega) hS5 ?_
    intro F' S' hS' q2 q3 k2 k3
    refine outP_ret ⟨hS', q2, q3, k2, by rw [ratF_str hlong hstr]; exact k3, by rw [ratF_str hlong hstr]; exact hstr⟩
  refine wpc_non (by simp only [↓stU, stD, reduceEqDiff, ↓reduceIte, decide_eq_false (show ¬ ¬ (strF s).1 = 0 from fun h => h hstr)]) (wpc_skip ?_)
  try simp only [↓stU, stD, reduceEqDiff, ↓reduceIte]
  have hrest := ratF_rest hlong hstr
  refine wsr ?_
  simp only [↓stU, stD, reduceEqDiff, ↓reduceIte]
  refine wpo_call ?_
  simp only [↓stU, stD, reduceEqDiff, ↓reduceIte]
  refine wpf_mono (cut_spec H (by omega)) ?_
  rintro _ S6 ⟨rfl, hS6⟩
  simp only [↓stU, stD, reduceEqDiff, ↓reduceIte, ex0, ex1, ex2]
  refine wsr ?_
  simp only [↓stU, stD, reduceEqDiff, ↓reduceIte]
  refine wpo_call ?_
  simp only [↓stU, stD, reduceEqDiff, ↓reduceIte]
  refine wpf_mono (cutPrefix_spec H) ?_
  rintro _ T6 ⟨rfl, hT6⟩
  rw [hT6]
  clear hT6 T6
  rw [show ((above s).head? == some 45) = negIn s from rfl, show (above s).drop (if negIn s = true then 1 else 0) = digitsIn s from rfl]
  simp only [↓stU, stD, reduceEqDiff, ↓reduceIte, ex0, ex1]
  refine wsr ?_
  simp only [↓stU, stD, reduceEqDiff, ↓reduceIte]
  refine wpo_call ?_
  simp only [↓stU, stD, reduceEqDiff, ↓reduceIte]
  refine wpf_mono (pparse_spec H) ?_
  rintro _ S7 ⟨u, rfl, hu0, hu1, hS7⟩
  simp only [↓stU, stD, reduceEqDiff, ↓reduceIte, ex0, ex1]
  refine wpo_alloc ?_
  intro S8 s8 n8 c8
  simp only [↓stU, stD, reduceEqDiff, ↓reduceIte]
  refine wpo_st (b := S7.nx) (by simp only [↓stU, stD, reduceEqDiff, ↓reduceIte]) (by simp only [↓stU, stD, reduceEqDiff, ↓reduceIte]; exact cells_agg _) c8 rfl rfl ?_
  intro S9 s9 n9 c9
  simp only [↓stU, stD, reduceEqDiff, ↓reduceIte]
  have hS57 := hS6.trans hS7
  have hS59 : Same S5 S9 := s9.same (hS57.trans s8) hS57.1
  have hS9 := hS5.trans hS59
  have gA9 : S9.h.get S.nx = some (.cells zeroR false 0) := by rw [hS59.2 _ (by omega)]; exact gA5
  have gB9 : S9.h.get (S.nx + 1) = some (.cells [.int .i64 0, .int .i64 0] false 0) := by rw [hS59.2 _ lt5]; exact gB5
  have le57 := hS57.1
  have h79 : S7.nx < S9.nx := by omega
  have hS79 : Same S7 S9 := s9.same s8 (Nat.le_refl _)
  obtain ⟨f1, f2⟩ := natF_snd (digitsIn s)
  have hal := above_len s
  have hsl := slash_le s
  have hdl := digits_len s
  refine wss ?_
  simp only [↓stU, stD, reduceEqDiff, ↓reduceIte, evQ_faddr, faddr_ptr, ld2_0 c9]
  by_cases hn : (natF (digitsIn s)).1 = 0
  rotate_left
  · refine wpc_yes (by simp only [↓stU, stD, reduceEqDiff, ↓reduceIte, decide_eq_true hn]) ?_
    have w1 : IntKind.i64.wrap (((above s).length : Int) - ((digitsIn s).length : Int)) = (if negIn s then 1 else 0) := by rw [hdl]; split <;> rfl
    have w2 : IntKind.i64.wrap ((natF (digitsIn s)).2 + (if negIn s then 1 else 0)) = (natF (digitsIn s)).2 + (if negIn s then 1 else 0) := by split <;> exact wrap_i64 (by omega) (by omega)
    have hres : ratF s = ((natF (digitsIn s)).1, (natF (digitsIn s)).2 + (if negIn s then 1 else 0)) := by rw [hrest]; unfold ratG; rw [if_pos hn]
    refine wsr ?_
    simp only [↓stU, stD, reduceEqDiff, ↓reduceIte, evQ_faddr, faddr_ptr, ld2_1 c9, evQ_lenStr, lenStr_eq, w1, w2]
    refine wpo_x (fun call => by simp only [↓stU, stD, reduceEqDiff, ↓reduceIte, evX_st, cells_int]; exact st2_1 c9) ?_
    simp only [↓stU, stD, reduceEqDiff, ↓reduceIte]
    have hb9 : SameBut S7.nx S9 ⟨S9.h.set S7.nx (some (.cells [.int .i64 (natF (digitsIn s)).1, .int .i64 ((natF (digitsIn s)).2 + (if negIn s then 1 else 0))] false 0)), S9.nx⟩ := (SameBut.refl _ _).put _
    refine fault_out (S0 := S) (b2 := S.nx) (b3 := S.nx + 1) (b4 := S7.nx) (e := (natF (digitsIn s)).1) (a := (natF (digitsIn s)).2 + (if negIn s then 1 else 0)) (by decide) (by decide) (by decide) (by decide) (by decide) (by decide) (by simp only [↓stU, stD, reduceEqDiff, ↓reduceIte]) (by simp only [↓stU, stD, reduceEqDiff, ↓reduceIte]) (by simp only [↓stU, stD, reduceEqDiff, ↓reduceIte]) (by simp only; rw [T.get_set, if_neg (by omega)]; exact gA9) (by simp only; rw [T.get_set, if_neg (by omega)]; exact gB9) (by simp only; rw [T.get_set, if_pos rfl]) (Nat.le_refl _) (by omega) (by simp only; omega) (by simp only; omega) h79 (by omega) (by omega) (by omega) (hb9.same hS9 (by omega)) ?_
    intro F' S' hS' q2 q3 k2 k3
    refine outP_ret ⟨hS', q2, q3, k2, by rw [hres]; exact k3, by rw [hres]; exact hn⟩
  refine wpc_non (by simp only [↓stU, stD, reduceEqDiff, ↓reduceIte, decide_eq_false (show ¬ ¬ (natF (digitsIn s)).1 = 0 from fun h => h hn)]) (wpc_skip ?_)
  try simp only [↓stU, stD, reduceEqDiff, ↓reduceIte]
  have hu : NatIs S9 u (numIn s) := (hu0 hn).same hS79
  have hub : numIn s < B ^ 1024 := natF_zero hn
  clear hu0 hu1 f1 f2
  refine wsr ?_
  simp only [↓stU, stD, reduceEqDiff, ↓reduceIte]
  refine wpo_call ?_
  simp only [↓stU, stD, reduceEqDiff, ↓reduceIte]
  refine wpf_mono (one_spec H.f27) ?_
  rintro ov S10 ⟨ho, hS10⟩
  try simp only [↓stU, stD, reduceEqDiff, ↓reduceIte]
  have le910 := hS10.1
  have hS10' := hS9.trans hS10
  have gA10 : S10.h.get S.nx = some (.cells zeroR false 0) := by rw [hS10.2 _ (by omega)]; exact gA9
  have gB10 : S10.h.get (S.nx + 1) = some (.cells [.int .i64 0, .int .i64 0] false 0) := by rw [hS10.2 _ (by omega)]; exact gB9
  have c10 : S10.h.get S7.nx = some (.cells [.int .i64 (natF (digitsIn s)).1, .int .i64 (natF (digitsIn s)).2] false 0) := by rw [hS10.2 _ h79]; exact c9
  refine wpc_seq (wpc_mono (Q := fun o A' X => (o = .normal ∧ DenP S s u A' X) ∨ (o = .ret ∧ OutP S S.nx (S.nx + 1) s A' X)) (wpc_seq (wpc_reg ?_)) ?_)
  · simp only [↓stU, stD, reduceEqDiff, ↓reduceIte]
    by_cases hd : slashAt s < s.length
    · refine wpc_yes (by simp only [↓stU, stD, reduceEqDiff, ↓reduceIte, decide_eq_true hd]) ?_
      refine wsr ?_
      simp only [↓stU, stD, reduceEqDiff, ↓reduceIte]
      refine wpo_call ?_
      simp only [↓stU, stD, reduceEqDiff, ↓reduceIte]
      refine wpf_mono (pparse_spec H) ?_
      rintro _ S11 ⟨dv, rfl, hd0, hd1, hS11⟩
      simp only [↓stU, stD, reduceEqDiff, ↓reduceIte, ex0, ex1]
      have le1011 := hS11.1
      refine wpo_st (b := S7.nx) (by simp only [↓stU, stD, reduceEqDiff, ↓reduceIte]) (by simp only [↓stU, stD, reduceEqDiff, ↓reduceIte]; exact cells_agg _) (by rw [hS11.2 _ (by omega)]; exact c10) rfl rfl ?_
      intro S12 s12 n12 c12
      simp only [↓stU, stD, reduceEqDiff, ↓reduceIte]
      have hS12 : Same S S12 := s12.same (hS10'.trans hS11) (by omega)
      have gA12 : S12.h.get S.nx = some (.cells zeroR false 0) := by rw [s12.2 _ (by omega) (by omega), hS11.2 _ (by omega)]; exact gA10
      have gB12 : S12.h.get (S.nx + 1) = some (.cells [.int .i64 0, .int .i64 0] false 0) := by rw [s12.2 _ (by omega) (by omega), hS11.2 _ (by omega)]; exact gB10
      obtain ⟨f1, f2⟩ := natF_snd (below s)
      refine wsr ?_
      simp only [↓stU, stD, reduceEqDiff, ↓reduceIte, evQ_faddr, faddr_ptr, ld2_0 c12]
      by_cases hm : (natF (below s)).1 = 0
      rotate_left
      · refine wpc_yes (by simp only [↓stU, stD, reduceEqDiff, ↓reduceIte, decide_eq_true hm]) ?_
        have w1 : IntKind.i64.wrap ((slashAt s : Int) + 1) = (slashAt s : Int) + 1 := wrap_i64 (by omega) (by omega)
        have w2 : IntKind.i64.wrap ((natF (below s)).2 + ((slashAt s : Int) + 1)) = (natF (below s)).2 + ((slashAt s : Int) + 1) := wrap_i64 (by omega) (by omega)
        have hres : ratF s = ((natF (below s)).1, (natF (below s)).2 + ((slashAt s : Int) + 1)) := by rw [hrest]; unfold ratG; rw [if_neg (fun h => h hn), if_pos ⟨hd, hm⟩]
        refine wsr ?_
        simp only [↓stU, stD, reduceEqDiff, ↓reduceIte, evQ_faddr, faddr_ptr, ld2_1 c12, evQ_lenStr, lenStr_eq, hal, w1, w2]
        refine wpo_x (fun call => by simp only [↓stU, stD, reduceEqDiff, ↓reduceIte, evX_st, cells_int]; exact st2_1 c12) ?_
        simp only [↓stU, stD, reduceEqDiff, ↓reduceIte]
        have hb12 : SameBut S7.nx S12 ⟨S12.h.set S7.nx (some (.cells [.int .i64 (natF (below s)).1, .int .i64 ((natF (below s)).2 + ((slashAt s : Int) + 1))] false 0)), S12.nx⟩ := (SameBut.refl _ _).put _
        refine fault_out (S0 := S) (b2 := S.nx) (b3 := S.nx + 1) (b4 := S7.nx) (e := (natF (below s)).1) (a := (natF (below s)).2 + ((slashAt s : Int) + 1)) (by decide) (by decide) (by decide) (by decide) (by decide) (by decide) (by simp only [↓stU, stD, reduceEqDiff, ↓reduceIte]) (by simp only [↓stU, stD, reduceEqDiff, ↓reduceIte]) (by simp only [↓stU, stD, reduceEqDiff, ↓reduceIte]) (by simp only; rw [T.get_set, if_neg (by omega)]; exact gA12) (by simp only; rw [T.get_set, if_neg (by omega)]; exact gB12) (by simp only; rw [T.get_set, if_pos rfl]) (Nat.le_refl _) (by omega) (by simp only; omega) (by simp only; omega) (by simp only; omega) (by omega) (by omega) (by omega) (hb12.same hS12 (by omega)) ?_
        intro F' S' hS' q2 q3 k2 k3
        exact .inr ⟨rfl, hS', q2, q3, k2, by rw [hres]; exact k3, by rw [hres]; exact hm⟩
      refine wpc_non (by simp only [↓stU, stD, reduceEqDiff, ↓reduceIte, decide_eq_false (show ¬ ¬ (natF (below s)).1 = 0 from fun h => h hm)]) (wpc_skip ?_)
      have hden : denIn s = decVal (below s) := by unfold denIn; rw [if_pos hd]
      have hu12 : NatIs S12 u (numIn s) := (((hu.same hS10).same hS11)).stU (by rw [hS11.2 _ (by omega)]; exact c10) rfl s12 c12
      have hd12 : NatIs S12 dv (denIn s) := by rw [hden]; exact (hd0 hm).stU (by rw [hS11.2 _ (by omega)]; exact c10) rfl s12 c12
      refine .inl ⟨rfl, rfl, hS12, gA12, gB12, by omega, hu12, hub, ⟨dv, by simp only [↓stU, stD, reduceEqDiff, ↓reduceIte], hd12⟩, by rw [hden]; exact natF_zero hm, by simp only [↓stU, stD, reduceEqDiff, ↓reduceIte], by simp only [↓stU, stD, reduceEqDiff, ↓reduceIte], by simp only [↓stU, stD, reduceEqDiff, ↓reduceIte], by simp only [↓stU, stD, reduceEqDiff, ↓reduceIte], by simp only [↓stU, stD, reduceEqDiff, ↓reduceIte], ?_⟩
      rw [hrest]; unfold ratG; rw [if_neg (fun h => h hn), if_neg (fun h => h.2 hm)]
    · refine wpc_non (by simp only [↓stU, stD, reduceEqDiff, ↓reduceIte, decide_eq_false hd]) (wpc_skip ?_)
      have hden : denIn s = 1 := by unfold denIn; rw [if_neg hd]
      refine .inl ⟨rfl, rfl, hS10', gA10, gB10, by omega, hu.same hS10, hub, ⟨ov, by simp only [↓stU, stD, reduceEqDiff, ↓reduceIte], by rw [hden]; exact ho⟩, by rw [hden]; exact one_ltB (K := 1024) (by decide), by simp only [↓stU, stD, reduceEqDiff, ↓reduceIte], by simp only [↓stU, stD, reduceEqDiff, ↓reduceIte], by simp only [↓stU, stD, reduceEqDiff, ↓reduceIte], by simp only [↓stU, stD, reduceEqDiff, ↓reduceIte], by simp only [↓stU, stD, reduceEqDiff, ↓reduceIte], ?_⟩
      rw [hrest]; unfold ratG; rw [if_neg (fun h => h hn), if_neg (fun h => hd h.1)]
  rintro o ⟨F, inr⟩ X (⟨rfl, q0, hX, gAX, gBX, ltX, huX, _, ⟨dv, p12, hdv⟩, hdb, p2, p3, p5, p9, p10, hres⟩ | ⟨rfl, h⟩)
  rotate_left
  · exact outP_ret h
  simp only at q0 p2 p3 p5 p9 p10 p12
  subst q0
  clear hS10' gA10 gB10 c10 hS10 le910 ho hu gA9 gB9 hS79 h79 hS9 hS59 c9 s9 n9 c8 s8 n8 hS57 le57 hS7 hS6 hS5 gA5 gB5 c5
  try simp only [↓stU, stD, reduceEqDiff, ↓reduceIte]
  obtain ⟨k, hk1, hk2⟩ := hdv.lenZ
  refine wss ?_
  simp only [↓stU, stD, reduceEqDiff, ↓reduceIte, p12, hk1]
  by_cases hz : k = 0
  · refine wpc_yes (by simp only [↓stU, stD, reduceEqDiff, ↓reduceIte, decide_eq_true (show ((k : Nat) : Int) = 0 by omega)]) ?_
    have hd0 := hk2.1 hz
    have hdd : slashAt s < s.length := by
      rcases Nat.lt_or_ge (slashAt s) s.length with h | h
      · exact h
      · unfold denIn at hd0; rw [if_neg (by omega)] at hd0; cases hd0
    have hres : ratF s = (6, (slashAt s : Int) + 1) := by
      unfold denIn at hd0
      rw [if_pos hdd] at hd0
      rw [hres, if_pos ⟨hdd, hd0⟩]
    have w1 : IntKind.i64.wrap ((slashAt s : Int) + 1) = (slashAt s : Int) + 1 := wrap_i64 (by omega) (by omega)
    refine wsr ?_
    simp only [↓stU, stD, reduceEqDiff, ↓reduceIte, p5, evQ_zr, evQ_f2, cells_int, evQ_lenStr, lenStr_eq, hal, w1]
    refine wpo_st (b := S.nx) (by simp only [↓stU, stD, reduceEqDiff, ↓reduceIte, p2]) (by simp only [↓stU, stD, reduceEqDiff, ↓reduceIte]; exact cells_agg _) gAX rfl rfl ?_
    intro S3 s3 n3 c3
    refine wpo_st (b := S.nx + 1) (by simp only [↓stU, stD, reduceEqDiff, ↓reduceIte, p3]) (by simp only [↓stU, stD, reduceEqDiff, ↓reduceIte]; exact cells_agg _) (by rw [s3.2 _ (by omega) (by omega)]; exact gBX) rfl rfl ?_
    intro S4 s4 n4 c4
    simp only [↓stU, stD, reduceEqDiff, ↓reduceIte]
    refine wpc_ret ?_
    exact outP_ret ⟨s4.same (s3.same hX (Nat.le_refl _)) (by omega), by simp only [↓stU, stD, reduceEqDiff, ↓reduceIte, p2], by simp only [↓stU, stD, reduceEqDiff, ↓reduceIte, p3], by rw [s4.2 _ (by omega) (by omega)]; exact c3, by rw [hres]; exact c4, by rw [hres]; simp⟩
  · refine wpc_non (by simp only [↓stU, stD, reduceEqDiff, ↓reduceIte, decide_eq_false (show ¬ ((k : Nat) : Int) = 0 by omega)]) (wpc_skip ?_)
    try simp only [↓stU, stD, reduceEqDiff, ↓reduceIte]
    have hd0 : denIn s ≠ 0 := fun e => hz (hk2.2 e)
    have hres : ratF s = (0, 0) := by
      rw [hres, if_neg]
      rintro ⟨h1, h2⟩
      unfold denIn at hd0
      rw [if_pos h1] at hd0
      exact hd0 h2
    refine wsr ?_
    simp only [↓stU, stD, reduceEqDiff, ↓reduceIte, p9, p10, p12]
    refine wpo_call ?_
    simp only [↓stU, stD, reduceEqDiff, ↓reduceIte]
    refine wpf_mono (ratio_spec H (hL.same hX) huX hdv (Fits.of hub (by decide)) (Fits.of hdb (by decide)) (by omega)) ?_
    rintro v S3 ⟨hv, hS3⟩
    obtain ⟨x, y, z, rfl⟩ := hv.cells
    simp only [↓stU, stD, reduceEqDiff, ↓reduceIte, evQ_f0]
    have le3 := hS3.1
    have gA3 : S3.h.get S.nx = some (.cells zeroR false 0) := by rw [hS3.2 _ (by omega)]; exact gAX
    have gB3 : S3.h.get (S.nx + 1) = some (.cells [.int .i64 0, .int .i64 0] false 0) := by rw [hS3.2 _ (by omega)]; exact gBX
    refine wpo_st (b := S.nx) (by simp only [↓stU, stD, reduceEqDiff, ↓reduceIte, p2]) (by simp only [↓stU, stD, reduceEqDiff, ↓reduceIte]; exact cells_agg _) gA3 rfl rfl ?_
    intro S4 s4 n4 c4
    have gB4 : S4.h.get (S.nx + 1) = some (.cells [.int .i64 0, .int .i64 0] false 0) := by rw [s4.2 _ (by omega) (by omega)]; exact gB3
    refine wpo_st (b := S.nx + 1) (by simp only [↓stU, stD, reduceEqDiff, ↓reduceIte, p3]) (by simp only [↓stU, stD, reduceEqDiff, ↓reduceIte]; exact cells_agg _) gB4 rfl rfl ?_
    intro S5 s5 n5 c5
    simp only [↓stU, stD, reduceEqDiff, ↓reduceIte]
    refine wpc_ret ?_
    have c4' : S5.h.get S.nx = some (.cells [x, y, z] false 0) := by rw [s5.2 _ (by omega) (by omega)]; exact c4
    simp only [↓stU, stD, reduceEqDiff, ↓reduceIte, results_cell, p2, p3, ld3 c4', ld2a c5]
    rw [hres]
    exact ⟨_, rfl, fun _ => (hv.stU gA3 rfl s4 c4).stU gB4 rfl s5 c5, fun h => absurd rfl h, s5.same (s4.same (hX.trans hS3) (Nat.le_refl _)) (by omega)⟩
end Go.Ev.Gl

namespace Go.Ev.Gl
variable {fns : T AFn}

/-! ## Texts lead back -/
end Go.Ev.Gl

namespace Go.Ev.Gl
variable {fns : T AFn}

theorem nat_one1 {S : St} {b : Nat} (hb : b < S.nx) (h : S.h.get b = some (.cells [.int .u32 1] false 0)) : NatIs S (.sl b 0 1 1 false) 1 :=
  ⟨[1], limbs_own (l := [1]) h hb rfl (Nat.le_refl _), ⟨Small.cons.2 ⟨by unfold B; decide, Small.nil⟩, by simp⟩, rfl⟩
end Go.Ev.Gl
