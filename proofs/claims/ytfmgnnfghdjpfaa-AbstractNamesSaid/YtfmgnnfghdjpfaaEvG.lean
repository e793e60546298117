import Derived.Test.YtfmgnnfghdjpfaaEvF
import Derived.Laws.Strings
import Derived.Lib.Split
namespace Go.Ev
variable {P : Program} {σ : Env} {S : St} {w : World}

/-! ## Two values with an operator -/
theorem isShift_spec (op : BinOp) : isShift op = true ↔ op = .shl ∨ op = .shr := by cases op <;> simp [isShift]

theorem shift_sound {op : BinOp} {k k' : IntKind} {a b : Int} {v : AV} (hs : isShift op = true) (h : shiftBin op k a b = some v) :
    ∃ V, (Op.shift op k a k' b).run P w = .ok V w ∧ Rv P σ v V := by
  cases b with
  | negSucc m => simp [shiftBin] at h
  | ofNat m =>
    simp only [shiftBin, shiftN] at h
    have hm : bsel (Nat.ble m k.bits) m k.bits = min m k.bits := by
      rw [bsel_eq]
      split
      · rename_i h1; rw [Nat.ble_eq] at h1; omega
      · rename_i h1; rw [Nat.ble_eq] at h1; omega
    rw [hm] at h
    have h0 : ¬ (Int.ofNat m < 0) := by simp
    rcases (isShift_spec op).1 hs with rfl | rfl
    · simp only [Option.some.injEq] at h
      subst h
      refine ⟨_, by simp only [Op.shift, if_neg h0]; rfl, ?_⟩
      simp only [Rv, iMulV_eq]
      congr 2
    · simp only [Option.some.injEq] at h
      subst h
      refine ⟨_, by simp only [Op.shift, if_neg h0]; rfl, ?_⟩
      simp only [Rv]
      congr 2

theorem iBits_some {f : Nat → Nat → Nat} {k : IntKind} {x y : Int} {v : AV} (h : iBits f k x y = some v) :
    ∃ a b, x = .ofNat a ∧ y = .ofNat b ∧ a ≤ maxN k ∧ b ≤ maxN k ∧ v = .int k (.ofNat (f a b)) := by
  unfold iBits at h
  split at h
  · rename_i a b
    obtain ⟨h1, h⟩ := bsel_some h
    obtain ⟨h2, h⟩ := bsel_some h
    cases h
    exact ⟨a, b, rfl, rfl, Nat.le_of_ble_eq_true h1, Nat.le_of_ble_eq_true h2, rfl⟩
  · cases h

theorem maxN_lt (k : IntKind) : maxN k < 2 ^ k.bits := by cases k <;> simp [maxN, IntKind.bits]
theorem wrap_nat {k : IntKind} {n : Nat} (h : n ≤ maxN k) : k.wrap (n : Int) = n := by
  apply wrap_id
  · cases k <;> simp [IntKind.min, IntKind.signed, IntKind.bits] <;> omega
  · cases k <;> simp only [maxN, IntKind.max, IntKind.signed, IntKind.bits] at * <;> simp <;> omega
theorem ofInt_nat {n a : Nat} (h : a < 2 ^ n) : (BitVec.ofInt n (Int.ofNat a)).toNat = a := by
  show (BitVec.ofInt n (a : Int)).toNat = a
  rw [BitVec.toNat_ofInt]
  have : ((a : Int) % ((2 ^ n : Nat) : Int)) = a := Int.emod_eq_of_lt (by omega) (by exact_mod_cast h)
  rw [this]
  rfl
theorem xor_le_maxN {k : IntKind} {a b : Nat} (ha : a ≤ maxN k) (hb : b ≤ maxN k) : a ^^^ b ≤ maxN k := by
  have key : ∀ m : Nat, maxN k = 2 ^ m - 1 → a ^^^ b ≤ maxN k := fun m hm => by
    have h1 : a < 2 ^ m := by have := Nat.two_pow_pos m; omega
    have h2 : b < 2 ^ m := by have := Nat.two_pow_pos m; omega
    have := Nat.xor_lt_two_pow h1 h2
    omega
  cases k
  · exact key 7 rfl
  · exact key 15 rfl
  · exact key 31 rfl
  · exact key 63 rfl
  · exact key 8 rfl
  · exact key 16 rfl
  · exact key 32 rfl
  · exact key 64 rfl
theorem or_le_maxN {k : IntKind} {a b : Nat} (ha : a ≤ maxN k) (hb : b ≤ maxN k) : a ||| b ≤ maxN k := by
  have key : ∀ m : Nat, maxN k = 2 ^ m - 1 → a ||| b ≤ maxN k := fun m hm => by
    have h1 : a < 2 ^ m := by have := Nat.two_pow_pos m; omega
    have h2 : b < 2 ^ m := by have := Nat.two_pow_pos m; omega
    have := Nat.or_lt_two_pow h1 h2
    omega
  cases k
  · exact key 7 rfl
  · exact key 15 rfl
  · exact key 31 rfl
  · exact key 63 rfl
  · exact key 8 rfl
  · exact key 16 rfl
  · exact key 32 rfl
  · exact key 64 rfl

theorem int_sound {op : BinOp} {t : TypeId} {k : IntKind} {a b : Int} {v : AV} (hs : isShift op = false) (h : intBin op k a b = some v) :
    ∃ V, (binOp op t (.int k a) (.int k b)).run P w = .ok V w ∧ Rv P σ v V := by
  cases op
  case add => cases h; exact ⟨_, by rw [binOp_add]; rfl, by simp only [Rv, iAddV_eq]⟩
  case sub => cases h; exact ⟨_, by rw [binOp_sub]; rfl, by simp only [Rv, iSubV_eq]⟩
  case mul => cases h; exact ⟨_, by rw [binOp_mul]; rfl, by simp only [Rv, iMulV_eq]⟩
  case quo =>
    have hb : binOp .quo t (.int k a) (.int k b) = Op.intDiv .quo k a b := binOp_quo ..
    have h' : iQuo k a b = some v := h
    unfold iQuo at h'
    rw [hb]
    split at h'
    · rename_i x y
      rw [bsel_eq] at h'
      split at h'
      · cases h'
      · rename_i h0
        rw [Nat.beq_eq] at h0
        cases h'
        have : ¬ (Int.ofNat y = 0) := by simpa using h0
        refine ⟨_, by simp only [Op.intDiv, if_neg this]; rfl, ?_⟩
        simp only [Rv, nat_eq]
        congr 2
    · rw [bsel_eq, ieq_eq] at h'
      split at h'
      · cases h'
      · rename_i h0
        cases h'
        have : ¬ (b = 0) := by simpa using h0
        exact ⟨_, by simp only [Op.intDiv, if_neg this]; rfl, by simp only [Rv, wrapF_eq]⟩
  case rem =>
    have hb : binOp .rem t (.int k a) (.int k b) = Op.intDiv .rem k a b := by simp [binOp]
    have h' : iRem k a b = some v := h
    unfold iRem at h'
    rw [hb]
    split at h'
    · rename_i x y
      rw [bsel_eq] at h'
      split at h'
      · cases h'
      · rename_i h0
        rw [Nat.beq_eq] at h0
        cases h'
        have : ¬ (Int.ofNat y = 0) := by simpa using h0
        refine ⟨_, by simp only [Op.intDiv, if_neg this]; rfl, ?_⟩
        simp only [Rv]
        congr 1
    · rw [bsel_eq, ieq_eq] at h'
      split at h'
      · cases h'
      · rename_i h0
        cases h'
        have : ¬ (b = 0) := by simpa using h0
        exact ⟨_, by simp only [Op.intDiv, if_neg this]; rfl, by simp only [Rv]⟩
  case and =>
    obtain ⟨x, y, rfl, rfl, h1, h2, rfl⟩ := iBits_some (h : iBits Nat.land k a b = some v)
    refine ⟨_, by simp only [binOp, ne_eq, not_true_eq_false, if_false, Op.intBits]; rfl, ?_⟩
    simp only [Rv]
    have hx := ofInt_nat (Nat.lt_of_le_of_lt h1 (maxN_lt k))
    have hy := ofInt_nat (Nat.lt_of_le_of_lt h2 (maxN_lt k))
    rw [BitVec.toNat_and, hx, hy]
    have hle : x &&& y ≤ maxN k := Nat.le_trans Nat.and_le_left h1
    rw [wrap_nat hle]
    rfl
  case or =>
    obtain ⟨x, y, rfl, rfl, h1, h2, rfl⟩ := iBits_some (h : iBits Nat.lor k a b = some v)
    refine ⟨_, by simp only [binOp, ne_eq, not_true_eq_false, if_false, Op.intBits]; rfl, ?_⟩
    simp only [Rv]
    have hx := ofInt_nat (Nat.lt_of_le_of_lt h1 (maxN_lt k))
    have hy := ofInt_nat (Nat.lt_of_le_of_lt h2 (maxN_lt k))
    rw [BitVec.toNat_or, hx, hy, wrap_nat (or_le_maxN h1 h2)]
    rfl
  case xor =>
    obtain ⟨x, y, rfl, rfl, h1, h2, rfl⟩ := iBits_some (h : iBits Nat.xor k a b = some v)
    refine ⟨_, by simp only [binOp, ne_eq, not_true_eq_false, if_false, Op.intBits]; rfl, ?_⟩
    simp only [Rv]
    have hx := ofInt_nat (Nat.lt_of_le_of_lt h1 (maxN_lt k))
    have hy := ofInt_nat (Nat.lt_of_le_of_lt h2 (maxN_lt k))
    rw [BitVec.toNat_xor, hx, hy, wrap_nat (xor_le_maxN h1 h2)]
    rfl
  case shl => simp [isShift] at hs
  case shr => simp [isShift] at hs
  case andNot => cases h
  case eql => cases h; exact ⟨_, by simp only [binOp, ne_eq, not_true_eq_false, if_false, Op.intCmp]; rfl, by simp only [Rv, ieq_eq]⟩
  case neq => cases h; exact ⟨_, by simp only [binOp, ne_eq, not_true_eq_false, if_false, Op.intCmp]; rfl, by simp only [Rv, ieq_eq, bnot_eq]; rfl⟩
  case lss =>
    cases h
    refine ⟨_, by simp only [binOp, ne_eq, not_true_eq_false, if_false, Op.intCmp]; rfl, ?_⟩
    simp only [Rv, ile_eq, bnot_eq]
    congr 1
    rw [Bool.eq_iff_iff]
    simp
  case leq => cases h; exact ⟨_, by simp only [binOp, ne_eq, not_true_eq_false, if_false, Op.intCmp]; rfl, by simp only [Rv, ile_eq]⟩
  case gtr =>
    cases h
    refine ⟨_, by simp only [binOp, ne_eq, not_true_eq_false, if_false, Op.intCmp]; rfl, ?_⟩
    simp only [Rv, ile_eq, bnot_eq]
    congr 1
    rw [Bool.eq_iff_iff]
    simp
  case geq => cases h; exact ⟨_, by simp only [binOp, ne_eq, not_true_eq_false, if_false, Op.intCmp]; rfl, by simp only [Rv, ile_eq]⟩

theorem ints_sound {op : BinOp} {t : TypeId} {k k' : IntKind} {a b : Int} {v : AV} (h : intsBin op k a k' b = some v) :
    ∃ V, (binOp op t (.int k a) (.int k' b)).run P w = .ok V w ∧ Rv P σ v V := by
  unfold intsBin at h
  cases hs : isShift op
  · rw [hs, bsel_false] at h
    obtain ⟨h1, h2⟩ := bsel_some h
    have := keq_eq h1
    subst this
    exact int_sound hs h2
  · rw [hs, bsel_true] at h
    obtain ⟨V, h1, h2⟩ := shift_sound (P := P) (σ := σ) (w := w) (k' := k') hs h
    refine ⟨V, ?_, h2⟩
    rcases (isShift_spec op).1 hs with rfl | rfl <;> exact h1

/-! ### strings -/
theorem byteNat {x : Nat} (h : x < 256) : (UInt8.ofNat x).toNat = x := by
  rw [UInt8.toNat_ofNat']
  exact Nat.mod_eq_of_lt h
theorem strEq_eq : ∀ {a b : List Nat}, Bytes a → Bytes b → (strEq a b = true ↔ mkStr a = mkStr b) := by
  have inj : ∀ {a b : List Nat}, Bytes a → Bytes b → mkStr a = mkStr b → a = b := fun {a b} ha hb h => by
    have h1 : a.map UInt8.ofNat = b.map UInt8.ofNat := by
      have := congrArg (fun s : ByteArray => s.data.toList) h
      simpa [mkStr] using this
    have h2 := congrArg (List.map UInt8.toNat) h1
    rw [List.map_map, List.map_map] at h2
    have e : ∀ l : List Nat, Bytes l → l.map (UInt8.toNat ∘ UInt8.ofNat) = l := fun l hl => by
      conv => rhs; rw [← List.map_id l]
      exact List.map_congr_left fun x hx => byteNat (hl x hx)
    rw [e a ha, e b hb] at h2
    exact h2
  have eqv : ∀ a b : List Nat, strEq a b = true ↔ a = b := by
    intro a
    induction a with
    | nil => intro b; cases b <;> simp [strEq]
    | cons x a ih =>
      intro b
      cases b with
      | nil => simp [strEq]
      | cons y b =>
        simp only [strEq, bsel_eq]
        split
        · rename_i h; rw [Nat.beq_eq] at h; subst h; simp [ih]
        · rename_i h; rw [Nat.beq_eq] at h; simp [h]
  intro a b ha hb
  rw [eqv]
  exact ⟨fun h => by rw [h], inj ha hb⟩
theorem mkStr_list (a : List Nat) : (mkStr a).toList = a.map UInt8.ofNat := by
  exact ByteArray.toList_mk _
theorem mkStr_size (a : List Nat) : (mkStr a).size = a.length := by simp [mkStr, ByteArray.size]
theorem mkStr_append (a b : List Nat) : mkStr (a ++ b) = mkStr a ++ mkStr b := by
  apply ByteArray.ext
  rw [ByteArray.data_append]
  simp [mkStr]
end Go.Ev
