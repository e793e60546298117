import Derived.Test.YtfmgnnfghdjpfaaEvG
import Derived.Laws.StructEq
namespace Go.Ev
variable {P : Program} {σ : Env} {S : St} {w : World}

theorem strLess_eq : ∀ {a b : List Nat}, Bytes a → Bytes b → strLess a b = Op.bytesLess (a.map UInt8.ofNat) (b.map UInt8.ofNat)
  | a, [], _, _ => by cases a <;> simp [strLess, Op.bytesLess]
  | [], _ :: _, _, _ => by simp [strLess, Op.bytesLess]
  | x :: a, y :: b, ha, hb => by
    have hx : (UInt8.ofNat x).toNat = x := byteNat (ha x (by simp))
    have hy : (UInt8.ofNat y).toNat = y := byteNat (hb y (by simp))
    have ih := strLess_eq (a := a) (b := b) (fun z hz => ha z (by simp [hz])) (fun z hz => hb z (by simp [hz]))
    simp only [strLess, List.map_cons, Op.bytesLess, ih]
    have e1 : (decide (UInt8.ofNat x < UInt8.ofNat y)) = Nat.blt x y := by
      rw [Bool.eq_iff_iff, decide_eq_true_eq, UInt8.lt_iff_toNat_lt, hx, hy]
      exact ⟨fun h => Nat.ble_eq_true_of_le h, fun h => Nat.le_of_ble_eq_true h⟩
    have e2 : (UInt8.ofNat x == UInt8.ofNat y) = Nat.beq x y := by
      rw [Bool.eq_iff_iff, beq_iff_eq, Nat.beq_eq, ← UInt8.toNat_inj, hx, hy]
    rw [e1, e2, bsel_eq, bsel_eq]
    cases Nat.blt x y <;> cases Nat.beq x y <;> simp

theorem Bytes.append {a b : List Nat} (ha : Bytes a) (hb : Bytes b) : Bytes (a ++ b) := fun x hx => by
  rcases List.mem_append.1 hx with h | h
  · exact ha x h
  · exact hb x h

theorem str_beq {a b : List Nat} (ha : Bytes a) (hb : Bytes b) : ((mkStr a).toList == (mkStr b).toList) = strEq a b := by
  rw [Bool.eq_iff_iff, strEq_eq ha hb, beq_iff_eq, mkStr_list, mkStr_list]
  constructor
  · intro h; unfold mkStr; rw [h]
  · intro h
    have := congrArg (fun s : ByteArray => s.data.toList) h
    simpa [mkStr] using this

theorem str_sound {op : BinOp} {t : TypeId} {a b : List Nat} {v : AV} (ha : Bytes a) (hb : Bytes b) (h : strBin op a b = some v) :
    ∃ V, (binOp op t (.string (mkStr a)) (.string (mkStr b))).run P w = .ok V w ∧ Rv P σ v V := by
  have hbin : ∀ op, binOp op t (.string (mkStr a)) (.string (mkStr b)) = Op.stringOp op (mkStr a) (mkStr b) := fun op => by cases op <;> rfl
  rw [hbin]
  have he := str_beq ha hb
  rw [mkStr_list, mkStr_list] at he
  have hl := strLess_eq ha hb
  unfold strBin at h
  cases op <;> simp only [reduceCtorEq, Option.some.injEq] at h <;> simp only [Op.stringOp, mkStr_list, he, ← hl]
  case add =>
    obtain ⟨h1, h2⟩ := bsel_some h
    cases h2
    rw [lenL_eq, lenL_eq] at h1
    have h1 := Nat.le_of_ble_eq_true h1
    have hn : ¬ (((mkStr a).size + (mkStr b).size : Nat) : Int) > IntKind.i64.max := by
      rw [mkStr_size, mkStr_size]
      simp [IntKind.max, IntKind.signed, IntKind.bits]
      omega
    refine ⟨_, by rw [if_neg hn]; rfl, ?_⟩
    simp only [Rv, appL_eq]
    exact ⟨by rw [mkStr_append], ha.append hb⟩
  all_goals (subst h; exact ⟨_, rfl, by simp only [Rv]⟩)

/-! ### equality of the plain kinds -/
theorem eqP_spec (t : TypeId) : (∃ d, P.underlying t = some d ∧ match eqP P t with
    | .bool => d = .bool | .int => ∃ k, d = .int k | .str => d = .string | .ptr => ∃ e, d = .pointer e | .slice => ∃ e, d = .slice e
    | .map => ∃ k e, d = .map k e | .func => ∃ a b c, d = .func a b c | .iface => ∃ m, d = .interface m | .no => True) ∨ eqP P t = .no := by
  unfold eqP
  cases h : P.underlying t with
  | none => exact .inr rfl
  | some d => left; exact ⟨d, rfl, by cases d <;> simp⟩

theorem eqp_sound {t : TypeId} {x y : AV} {X Y : Value} {b : Bool} (hx : Rv P σ x X) (hy : Rv P σ y Y) (h : eqp (eqP P t) x y = some b) (n : Nat) :
    (Op.equalIn (n + 1) t X Y).run P w = .ok b w := by
  rcases eqP_spec (P := P) t with ⟨d, hu, hd⟩ | hno
  · cases hq : eqP P t <;> rw [hq] at h hd <;> simp only at hd
    case bool =>
      subst hd
      cases x <;> simp only [eqp, reduceCtorEq] at h <;> cases y <;> simp only [eqp, reduceCtorEq] at h
      simp only [Rv] at hx hy; subst hx; subst hy; cases h
      simp [Op.equalIn, run_underlying hu, beq2_eq]
    case int =>
      obtain ⟨kk, rfl⟩ := hd
      cases x <;> simp only [eqp, reduceCtorEq] at h <;> cases y <;> simp only [eqp, reduceCtorEq] at h
      simp only [Rv] at hx hy; subst hx; subst hy
      obtain ⟨h1, h2⟩ := bsel_some h
      have := keq_eq h1
      subst this
      cases h2
      simp [Op.equalIn, run_underlying hu, ieq_eq]
    case str =>
      subst hd
      cases x <;> simp only [eqp, reduceCtorEq] at h <;> cases y <;> simp only [eqp, reduceCtorEq] at h
      simp only [Rv] at hx hy
      obtain ⟨rfl, ha⟩ := hx
      obtain ⟨rfl, hc⟩ := hy
      cases h
      rename_i a c
      have : (mkStr a == mkStr c) = strEq a c := by rw [beq_toListBytes, str_beq ha hc]
      simp [Op.equalIn, run_underlying hu, this]
    case ptr =>
      obtain ⟨kk, rfl⟩ := hd
      cases x <;> simp only [eqp, reduceCtorEq] at h <;> cases y <;> simp only [eqp, reduceCtorEq] at h <;> simp only [Rv] at hx hy <;> cases h
      · obtain ⟨L, _, rfl⟩ := hx; subst hy; simp [Op.equalIn, run_underlying hu]
      · obtain ⟨L, _, rfl⟩ := hy; subst hx; simp [Op.equalIn, run_underlying hu]
      · subst hx; subst hy; simp [Op.equalIn, run_underlying hu]
    case slice =>
      obtain ⟨kk, rfl⟩ := hd
      cases x <;> simp only [eqp, reduceCtorEq] at h <;> cases y <;> simp only [eqp, reduceCtorEq] at h <;> simp only [Rv] at hx hy <;> cases h
      · obtain ⟨L, _, rfl⟩ := hx; subst hy; simp [Op.equalIn, run_underlying hu]
      · obtain ⟨L, _, rfl⟩ := hy; subst hx; simp [Op.equalIn, run_underlying hu]
      · subst hx; subst hy; simp [Op.equalIn, run_underlying hu]
      · obtain ⟨L, _, rfl⟩ := hy; subst hx; simp [Op.equalIn, run_underlying hu]
      · obtain ⟨L, _, rfl⟩ := hx; subst hy; simp [Op.equalIn, run_underlying hu]
    case map =>
      obtain ⟨kk, ee, rfl⟩ := hd
      cases x <;> simp only [eqp, reduceCtorEq] at h <;> cases y <;> simp only [eqp, reduceCtorEq] at h <;> simp only [Rv] at hx hy <;> cases h
      · obtain ⟨L, _, rfl⟩ := hx; subst hy; simp [Op.equalIn, run_underlying hu]
      · obtain ⟨L, _, rfl⟩ := hy; subst hx; simp [Op.equalIn, run_underlying hu]
      · subst hx; subst hy; simp [Op.equalIn, run_underlying hu]
    case func =>
      obtain ⟨aa, bb, cc, rfl⟩ := hd
      cases x <;> simp only [eqp, reduceCtorEq] at h <;> cases y <;> simp only [eqp, reduceCtorEq] at h <;> simp only [Rv] at hx hy <;> cases h
      · obtain ⟨A, B, rfl, _⟩ := hx; subst hy; simp [Op.equalIn, run_underlying hu]
      · obtain ⟨A, B, rfl, _⟩ := hy; subst hx; simp [Op.equalIn, run_underlying hu]
      · subst hx; subst hy; simp [Op.equalIn, run_underlying hu]
    case iface =>
      obtain ⟨mm, rfl⟩ := hd
      cases x <;> simp only [eqp, reduceCtorEq] at h <;> cases y <;> simp only [eqp, reduceCtorEq] at h <;> simp only [Rv] at hx hy <;> cases h
      · obtain ⟨W, rfl, _⟩ := hx; subst hy; simp [Op.equalIn, run_underlying hu]
      · obtain ⟨W, rfl, _⟩ := hy; subst hx; simp [Op.equalIn, run_underlying hu]
    case no => simp [eqp] at h
  · rw [hno] at h
    simp [eqp] at h

/-- the guard of a comparison lets plain kinds by -/
theorem eqp_guard {op : BinOp} {t : TypeId} {xo yo : Operand} {e : EqP} {x y : AV} {X Y : Value} {b : Bool} (hx : Rv P σ x X) (hy : Rv P σ y Y) (h : eqp e x y = some b) :
    eqGuard op t xo yo X Y = pure () := by
  cases x <;> cases e <;> simp only [eqp, reduceCtorEq] at h <;> simp only [Rv] at hx
  all_goals first
    | (subst hx; cases op <;> rfl)
    | (obtain ⟨rfl, _⟩ := hx; cases op <;> rfl)
    | (obtain ⟨L, _, rfl⟩ := hx; cases op <;> rfl)
    | (obtain ⟨L, _, rfl⟩ := hx; cases op <;> rfl)
    | (obtain ⟨A, B, rfl, _⟩ := hx; cases op <;> rfl)
    | (obtain ⟨A, rfl, _⟩ := hx; cases op <;> rfl)
    | (cases y <;> simp only [eqp, reduceCtorEq] at h; simp only [Rv] at hy; obtain ⟨A, rfl, _⟩ := hy; subst hx; cases op <;> rfl)
end Go.Ev
