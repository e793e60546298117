/- Contracts (3): rational numbers, the statements' tools, the law. -/
import Derived.Test.YtoojnpjgnnpllaaGl2
set_option maxHeartbeats 4000000
set_option linter.unusedSimpArgs false
set_option linter.unusedVariables false
namespace Go.Ev.Gl
variable {fns : T AFn}

/-- short enough for a product of some such numbers -/
def Half (n : Nat) : Prop := n < B ^ 20000
def HalfR (q : Rat) : Prop := Half q.num.natAbs ∧ Half q.den
theorem Half.fits {n : Nat} (h : Half n) : Fits n := Fits.of h (by decide)
theorem Half.mono {n m : Nat} (h : Half m) (hn : n ≤ m) : Half n := Nat.lt_of_le_of_lt hn h
theorem pow_B_pos (k : Nat) : 0 < B ^ k := Nat.pow_pos B_pos
theorem mul_lt_pow {a b i j : Nat} (ha : a < B ^ i) (hb : b < B ^ j) : a * b < B ^ (i + j) := by
  rw [Nat.pow_add]
  rcases Nat.eq_zero_or_pos b with h | h
  · subst h; rw [Nat.mul_zero]; exact Nat.mul_pos (pow_B_pos i) (pow_B_pos j)
  · exact Nat.lt_of_lt_of_le (Nat.mul_lt_mul_of_pos_right ha h) (Nat.mul_le_mul_left _ (Nat.le_of_lt hb))
theorem Half.mul {a b : Nat} (ha : Half a) (hb : Half b) : Fits (a * b) := Fits.of (mul_lt_pow ha hb) (by decide)
theorem HalfR.fits {q : Rat} (h : HalfR q) : FitsR q := ⟨h.1.fits, h.2.fits⟩
end Go.Ev.Gl

namespace Go.Ev.Gl
variable {fns : T AFn}

/-- both parts have at most 1024 limbs -/
def InBound (q : Rat) : Prop := q.num.natAbs < B ^ 1024 ∧ q.den < B ^ 1024
theorem norm_len_iff {l : List Nat} (h : Norm l) (K : Nat) : l.length ≤ K ↔ val l < B ^ K := by
  constructor
  · intro hl
    exact Nat.lt_of_lt_of_le (val_lt h.1) (Nat.pow_le_pow_right B_pos hl)
  · exact len_le h

end Go.Ev.Gl

namespace Go.Ev.Gl
variable {fns : T AFn}

/-! ## Which numbers are valid -/
open Classical in
noncomputable def chk (l : List Nat) : Int := if 1024 < l.length then 4 else if Norm l then 0 else 3
noncomputable def partsE (l m : List Nat) : Int := if chk l ≠ 0 then chk l else if chk m ≠ 0 then chk m else if m = [] then 6 else 0
noncomputable def rchk (s : Bool) (l m : List Nat) : Int := if partsE l m ≠ 0 then partsE l m else if (l = [] ∧ s = true) ∨ Nat.gcd (val l) (val m) ≠ 1 then 3 else 0

theorem chk_zero {l : List Nat} : chk l = 0 ↔ l.length ≤ 1024 ∧ Norm l := by
  unfold chk
  by_cases h1 : 1024 < l.length
  · rw [if_pos h1]; constructor
    · intro h; cases h
    · intro h; omega
  · rw [if_neg h1]
    by_cases h2 : Norm l
    · rw [if_pos h2]; exact ⟨fun _ => ⟨by omega, h2⟩, fun _ => rfl⟩
    · rw [if_neg h2]; exact ⟨fun h => (by cases h), fun h => absurd h.2 h2⟩
theorem partsE_zero {l m : List Nat} : partsE l m = 0 ↔ (l.length ≤ 1024 ∧ Norm l) ∧ (m.length ≤ 1024 ∧ Norm m) ∧ m ≠ [] := by
  unfold partsE
  by_cases h1 : chk l = 0
  · rw [if_neg (by simp [h1])]
    by_cases h2 : chk m = 0
    · rw [if_neg (by simp [h2])]
      rw [chk_zero] at h1 h2
      by_cases h3 : m = []
      · rw [if_pos h3]; exact ⟨fun h => (by cases h), fun h => absurd h3 h.2.2⟩
      · rw [if_neg h3]; exact ⟨fun _ => ⟨h1, h2, h3⟩, fun _ => rfl⟩
    · rw [if_pos h2]; exact ⟨fun h => absurd h h2, fun h => absurd (chk_zero.2 h.2.1) h2⟩
  · rw [if_pos h1]; exact ⟨fun h => absurd h h1, fun h => absurd (chk_zero.2 h.1) h1⟩
theorem rchk_zero {s : Bool} {l m : List Nat} : rchk s l m = 0 ↔ partsE l m = 0 ∧ ¬ (l = [] ∧ s = true) ∧ Nat.gcd (val l) (val m) = 1 := by
  unfold rchk
  by_cases h1 : partsE l m = 0
  · rw [if_neg (by simp [h1])]
    by_cases h2 : (l = [] ∧ s = true) ∨ Nat.gcd (val l) (val m) ≠ 1
    · rw [if_pos h2]
      refine ⟨fun h => (by cases h), fun h => ?_⟩
      rcases h2 with h2 | h2
      · exact absurd h2 h.2.1
      · exact absurd h.2.2 h2
    · rw [if_neg h2]
      refine ⟨fun _ => ⟨h1, fun h => h2 (.inl h), ?_⟩, fun _ => rfl⟩
      apply Classical.byContradiction
      intro h; exact h2 (.inr h)
  · rw [if_pos h1]; exact ⟨fun h => absurd h h1, fun h => absurd h.1 h1⟩

/-- a struct of a sign and two lists -/
def RawIs (S : St) (v : AV) (s : Bool) (l m : List Nat) : Prop := ∃ nv dv, v = .agg [.bool s, nv, dv] ∧ LimbIs S nv l ∧ LimbIs S dv m
theorem RawIs.same {S S' : St} {v : AV} {s : Bool} {l m : List Nat} (h : RawIs S v s l m) (hs : Same S S') : RawIs S' v s l m := by
  obtain ⟨nv, dv, h1, h2, h3⟩ := h
  exact ⟨nv, dv, h1, h2.same hs, h3.same hs⟩

end Go.Ev.Gl

namespace Go.Ev.Gl
variable {fns : T AFn}

/-! ## How long results are -/
def Bnd (k : Nat) (q : Rat) : Prop := q.num.natAbs < B ^ k ∧ q.den < B ^ k
theorem Bnd.mono {k j : Nat} {q : Rat} (h : Bnd k q) (hk : k ≤ j) : Bnd j q := ⟨Nat.lt_of_lt_of_le h.1 (Nat.pow_le_pow_right B_pos hk), Nat.lt_of_lt_of_le h.2 (Nat.pow_le_pow_right B_pos hk)⟩
theorem mkRat_le {n : Int} {d : Nat} (hd : d ≠ 0) : (mkRat n d).num.natAbs ≤ n.natAbs ∧ (mkRat n d).den ≤ d := by
  have hg : 0 < Nat.gcd n.natAbs d := Nat.gcd_pos_of_pos_right _ (by omega)
  rw [← Rat.normalize_eq_mkRat hd, Rat.normalize_eq]
  refine ⟨?_, Nat.div_le_self ..⟩
  simp only
  rw [Int.natAbs_ediv_of_dvd (Int.ofNat_dvd_left.2 (Nat.gcd_dvd_left ..)), Int.natAbs_natCast]
  exact Nat.div_le_self ..
theorem Bnd.mul {i j : Nat} {p q : Rat} (hp : Bnd i p) (hq : Bnd j q) : Bnd (i + j) (p * q) := by
  rw [Rat.mul_def']
  obtain ⟨h1, h2⟩ := mkRat_le (n := p.num * q.num) (Nat.mul_ne_zero p.den_nz q.den_nz)
  rw [Int.natAbs_mul] at h1
  exact ⟨Nat.lt_of_le_of_lt h1 (mul_lt_pow hp.1 hq.1), Nat.lt_of_le_of_lt h2 (mul_lt_pow hp.2 hq.2)⟩
theorem Bnd.neg {i : Nat} {p : Rat} (hp : Bnd i p) : Bnd i (-p) := by
  unfold Bnd; rw [Rat.neg_num, Rat.neg_den, Int.natAbs_neg]; exact hp
theorem Bnd.inv {i : Nat} {p : Rat} (hp : Bnd i p) (h0 : p.num ≠ 0) : Bnd i p⁻¹ := by
  rw [← inv_rat h0]
  obtain ⟨h1, h2⟩ := rat_mk (n := sg (decide (p.num < 0)) p.den) (d := p.num.natAbs) (by omega) (by rw [sg_natAbs]; exact Nat.Coprime.symm p.reduced)
  unfold Bnd
  rw [h1, h2, sg_natAbs]
  exact ⟨hp.2, hp.1⟩
/-! ## A block that is laid late -/
section
variable {W : Nat → Prop} {h0 : T AB} {base : Nat} {d : Option Nat} {m i : Nat} {l : List AO} {F : Fr} {S : St} {last : Option Nat} {Q : Fr → St → List Pend → Prop}
theorem flush_one {j id : Nat} {bl : AB} {h : T AB} (ht : Nat.testBit m j = true) : flush m [⟨j, id, bl⟩] h = ([], h.set id (some bl)) := by
  unfold flush
  rw [show Nat.testBit m (Pend.mk j id bl).i = true from ht, bsel_true]
  rfl
theorem runD_call1 {f : Opd} {args : List Opd} {j id : Nat} {bl : AB} (ht : Nat.testBit m j = true) (h : inMask last m = true) (hw : ∀ S2, SameBut id S S2 → S2.nx = S.nx → S2.h.get id = some bl → wpf fns (f.val F) (valsOf args F) S2 fun v S1 => Same S2 S1 ∧ runD fns W h0 base l (i + 1) (putF d F v) S1 [] (some i) Q) : runD fns W h0 base (⟨d, .x (.call f args), none, m⟩ :: l) i F S [⟨j, id, bl⟩] last Q := by
  refine runD_call h ?_
  rw [flush_one ht]
  exact hw ⟨S.h.set id (some bl), S.nx⟩ ((SameBut.refl id S).put _) rfl (by simp only; rw [T.get_set, if_pos rfl])
end

/-! ## Structs of two numbers -/
/-! ## The product of a pair -/
end Go.Ev.Gl

namespace Go.Ev.Gl
variable {fns : T AFn}

/-- a number that Check accepts -/
theorem RatIs.raw {S : St} {v : AV} {q : Rat} (h : RatIs S v q) (hq : InBound q) : ∃ s l m, RawIs S v s l m ∧ rchk s l m = 0 := by
  obtain ⟨nv, dv, rfl, ⟨l1, i1, j1, v1⟩, ⟨l2, i2, j2, v2⟩⟩ := h
  refine ⟨_, l1, l2, ⟨nv, dv, rfl, i1, i2⟩, rchk_zero.2 ⟨partsE_zero.2 ⟨⟨(norm_len_iff j1 _).2 (by rw [v1]; exact hq.1), j1⟩, ⟨(norm_len_iff j2 _).2 (by rw [v2]; exact hq.2), j2⟩, ?_⟩, ?_, ?_⟩⟩
  · rintro rfl
    rw [val_nil] at v2
    exact q.den_nz v2.symm
  · rintro ⟨h1, h2⟩
    subst h1
    rw [val_nil] at v1
    have := of_decide_eq_true h2
    omega
  · rw [v1, v2]; exact q.reduced

end Go.Ev.Gl

namespace Go.Ev.Gl
variable {fns : T AFn}

theorem wpo_al {d m : Nat} {a : AlOp} {l : List AO} {F : Fr} {S : St} {Q : Fr → St → Prop} {v : AV} {bl : AB} (he : evA a F S.nx = some (v, bl)) (h : ∀ S1, Same S S1 → S1.nx = S.nx + 1 → S1.h.get S.nx = some bl → wpo fns l (putF (some d) F v) S1 Q) : wpo fns (⟨some d, .a a, none, m⟩ :: l) F S Q := by
  rw [wpo_aE]
  refine ⟨(v, bl), he, h _ (Same.alloc S _) rfl ?_⟩
  simp only
  rw [T.get_set, if_pos rfl]

end Go.Ev.Gl

namespace Go.Ev.Gl
variable {fns : T AFn}

/-! ## The rules, with what lies beyond the last block -/
theorem wpc_drd2 (W : Nat → Prop) {ops : List AO} {A : Act'} {S : St} {Q : Out → Act' → St → Prop} (h : ∀ S1, Same S S1 → S1.h = S.h → S1.nx = S.nx + ops.length → runD fns W S.h S.nx ops 0 A.F S1 [] none fun F S' ps => Q .normal ⟨F, A.inr⟩ ⟨(flush (2 ^ ops.length - 1) ps S'.h).2, S'.nx⟩) : wpc fns (.drw ops) A S Q := wpc_drd W (h _ (Same.nx S _) rfl rfl)

/-! ## Signs -/
end Go.Ev.Gl

namespace Go.Ev.Gl
variable {fns : T AFn}

/-! ## The statements' own tools -/
theorem bin_rem_nat (e : EqT) (k : IntKind) {t d : Nat} (hd : 0 < d) : binV .rem e (.int k ((t : Nat) : Int)) (.int k ((d : Nat) : Int)) = some (.int k ((t % d : Nat) : Int)) := by
  show intsBin .rem k (Int.ofNat t) k (Int.ofNat d) = _
  unfold intsBin
  rw [show isShift .rem = false from rfl, bsel_false, keq_refl, bsel_true]
  show bsel (Nat.beq d 0) none (some (AV.int k (.ofNat (t % d)))) = _
  have h0 : Nat.beq d 0 = false := by rw [Bool.eq_false_iff]; intro h; rw [Nat.beq_eq] at h; omega
  rw [h0, bsel_false]
  rfl
theorem same_of_h {S S' : St} (h1 : S'.h = S.h) (h2 : S.nx ≤ S'.nx) : Same S S' := ⟨h2, fun _ _ => by rw [h1]⟩

end Go.Ev.Gl

namespace Go.Ev.Gl
variable {fns : T AFn}

def KgI (S : St) (g : Nat) (k : Nat) (A : Act') (S' : St) : Prop :=
  A.inr = false ∧ S'.h = S.h ∧ S.nx ≤ S'.nx ∧ ∃ a b : Nat, tmpV 0 A.F = .int .i64 (a : Int) ∧ tmpV 1 A.F = .int .i64 (b : Int) ∧ a ≤ 9223372036854775807 ∧ b ≤ 9223372036854775807 ∧ Nat.gcd a b = g ∧ k = b

end Go.Ev.Gl

namespace Go.Ev.Gl
variable {fns : T AFn}

end Go.Ev.Gl

namespace Go.Ev.Gl
variable {fns : T AFn}

/-! ## Comparing -/
end Go.Ev.Gl

namespace Go.Ev.Gl
variable {fns : T AFn}

/-! ## The whole numbers below and above -/
end Go.Ev.Gl

namespace Go.Ev.Gl
variable {fns : T AFn}

/-! ## Plain facts on comparing -/
end Go.Ev.Gl
