/- A verified evaluator of the model's code, part 3 of 7: strings, comparisons, parts. -/
import Derived.Test.YtiiplmagnlcpbaaGreatDoorEv2
import Derived.Laws.StructEq
import Derived.Laws.BytesString
import Derived.Laws.Slices
namespace Go.Ev
variable {P : Program} {σ : Env} {S : St} {w : World}

theorem strLess_eq : ∀ {a b : List Nat}, Bytes a → Bytes b → strLess a b = Op.bytesLess (a.map UInt8.ofNat) (b.map UInt8.ofNat)
  | a, [], _, _ => by cases a <;> simp [strLess, Op.bytesLess]
  | [], _ :: _, _, _ => by simp [strLess, Op.bytesLess]
  | x :: a, y :: b, ha, hb => by
    have hx : (UInt8.ofNat x).toNat = x := byteNat (ha x (by simp))
    have hy : (UInt8.ofNat y).toNat = y := byteNat (hb y (by simp))
    have ih := strLess_eq (a := a) (b := b) (fun z hz => ha z (by simp [hz])) (fun z hz => hb z (by simp [hz]))
    simp only [strLess, List.map_cons, Op.bytesLess, ih]
    have e1 : (decide (UInt8.ofNat x < UInt8.ofNat y)) = Nat.blt x y := by
      rw [Bool.eq_iff_iff, decide_eq_true_eq, UInt8.lt_iff_toNat_lt, hx, hy]
      exact ⟨fun h => Nat.ble_eq_true_of_le h, fun h => Nat.le_of_ble_eq_true h⟩
    have e2 : (UInt8.ofNat x == UInt8.ofNat y) = Nat.beq x y := by
      rw [Bool.eq_iff_iff, beq_iff_eq, Nat.beq_eq, ← UInt8.toNat_inj, hx, hy]
    rw [e1, e2, bsel_eq, bsel_eq]
    cases Nat.blt x y <;> cases Nat.beq x y <;> simp

theorem Bytes.append {a b : List Nat} (ha : Bytes a) (hb : Bytes b) : Bytes (a ++ b) := fun x hx => by
  rcases List.mem_append.1 hx with h | h
  · exact ha x h
  · exact hb x h

theorem str_beq {a b : List Nat} (ha : Bytes a) (hb : Bytes b) : ((mkStr a).toList == (mkStr b).toList) = strEq a b := by
  rw [Bool.eq_iff_iff, strEq_eq ha hb, beq_iff_eq, mkStr_list, mkStr_list]
  constructor
  · intro h; unfold mkStr; rw [h]
  · intro h
    have := congrArg (fun s : ByteArray => s.data.toList) h
    simpa [mkStr] using this

theorem str_sound {op : BinOp} {t : TypeId} {a b : List Nat} {v : AV} (ha : Bytes a) (hb : Bytes b) (h : strBin op a b = some v) :
    ∃ V, (binOp op t (.string (mkStr a)) (.string (mkStr b))).run P w = .ok V w ∧ Rv P σ v V := by
  have hbin : ∀ op, binOp op t (.string (mkStr a)) (.string (mkStr b)) = Op.stringOp op (mkStr a) (mkStr b) := fun op => by cases op <;> rfl
  rw [hbin]
  have he := str_beq ha hb
  rw [mkStr_list, mkStr_list] at he
  have hl := strLess_eq ha hb
  unfold strBin at h
  cases op <;> simp only [reduceCtorEq, Option.some.injEq] at h <;> simp only [Op.stringOp, mkStr_list, he, ← hl]
  case add =>
    obtain ⟨h1, h2⟩ := bsel_some h
    cases h2
    rw [lenL_eq, lenL_eq] at h1
    have h1 := Nat.le_of_ble_eq_true h1
    have hn : ¬ (((mkStr a).size + (mkStr b).size : Nat) : Int) > IntKind.i64.max := by
      rw [mkStr_size, mkStr_size]
      simp [IntKind.max, IntKind.signed, IntKind.bits]
      omega
    refine ⟨_, by rw [if_neg hn]; rfl, ?_⟩
    simp only [Rv, appL_eq]
    exact ⟨by rw [mkStr_append], ha.append hb⟩
  all_goals (subst h; exact ⟨_, rfl, by simp only [Rv]⟩)

/-! ### equality of the plain kinds -/
theorem eqP_spec (t : TypeId) : (∃ d, P.underlying t = some d ∧ match eqP P t with
    | .bool => d = .bool | .int => ∃ k, d = .int k | .str => d = .string | .ptr => ∃ e, d = .pointer e | .slice => ∃ e, d = .slice e
    | .map => ∃ k e, d = .map k e | .func => ∃ a b c, d = .func a b c | .iface => ∃ m, d = .interface m | .no => True) ∨ eqP P t = .no := by
  unfold eqP
  cases h : P.underlying t with
  | none => exact .inr rfl
  | some d => left; exact ⟨d, rfl, by cases d <;> simp⟩

theorem eqp_sound {t : TypeId} {x y : AV} {X Y : Value} {b : Bool} (hx : Rv P σ x X) (hy : Rv P σ y Y) (h : eqp (eqP P t) x y = some b) (n : Nat) :
    (Op.equalIn (n + 1) t X Y).run P w = .ok b w := by
  rcases eqP_spec (P := P) t with ⟨d, hu, hd⟩ | hno
  · cases hq : eqP P t <;> rw [hq] at h hd <;> simp only at hd
    case bool =>
      subst hd
      cases x <;> simp only [eqp, reduceCtorEq] at h <;> cases y <;> simp only [reduceCtorEq] at h
      simp only [Rv] at hx hy; subst hx; subst hy; cases h
      simp [Op.equalIn, run_underlying hu, beq2_eq]
    case int =>
      obtain ⟨kk, rfl⟩ := hd
      cases x <;> simp only [eqp, reduceCtorEq] at h <;> cases y <;> simp only [reduceCtorEq] at h
      simp only [Rv] at hx hy; subst hx; subst hy
      obtain ⟨h1, h2⟩ := bsel_some h
      have := keq_eq h1
      subst this
      cases h2
      simp [Op.equalIn, run_underlying hu, ieq_eq]
    case str =>
      subst hd
      cases x <;> simp only [eqp, reduceCtorEq] at h <;> cases y <;> simp only [reduceCtorEq] at h
      simp only [Rv] at hx hy
      obtain ⟨rfl, ha⟩ := hx
      obtain ⟨rfl, hc⟩ := hy
      cases h
      rename_i a c
      have : (mkStr a == mkStr c) = strEq a c := by rw [beq_toListBytes, str_beq ha hc]
      simp [Op.equalIn, run_underlying hu, this]
    case ptr =>
      obtain ⟨kk, rfl⟩ := hd
      cases x <;> simp only [eqp, reduceCtorEq] at h <;> cases y <;> simp only [reduceCtorEq] at h <;> simp only [Rv] at hx hy <;> cases h
      · obtain ⟨L, _, rfl⟩ := hx; subst hy; simp [Op.equalIn, run_underlying hu]
      · obtain ⟨L, _, rfl⟩ := hy; subst hx; simp [Op.equalIn, run_underlying hu]
      · subst hx; subst hy; simp [Op.equalIn, run_underlying hu]
    case slice =>
      obtain ⟨kk, rfl⟩ := hd
      cases x <;> simp only [eqp, reduceCtorEq] at h <;> cases y <;> simp only [reduceCtorEq] at h <;> simp only [Rv] at hx hy <;> cases h
      · obtain ⟨L, _, rfl⟩ := hx; subst hy; simp [Op.equalIn, run_underlying hu]
      · obtain ⟨L, _, rfl⟩ := hy; subst hx; simp [Op.equalIn, run_underlying hu]
      · subst hx; subst hy; simp [Op.equalIn, run_underlying hu]
      · obtain ⟨L, _, rfl⟩ := hy; subst hx; simp [Op.equalIn, run_underlying hu]
      · obtain ⟨L, _, rfl⟩ := hx; subst hy; simp [Op.equalIn, run_underlying hu]
    case map =>
      obtain ⟨kk, ee, rfl⟩ := hd
      cases x <;> simp only [eqp, reduceCtorEq] at h <;> cases y <;> simp only [reduceCtorEq] at h <;> simp only [Rv] at hx hy <;> cases h
      · obtain ⟨L, _, rfl⟩ := hx; subst hy; simp [Op.equalIn, run_underlying hu]
      · obtain ⟨L, _, rfl⟩ := hy; subst hx; simp [Op.equalIn, run_underlying hu]
      · subst hx; subst hy; simp [Op.equalIn, run_underlying hu]
    case func =>
      obtain ⟨aa, bb, cc, rfl⟩ := hd
      cases x <;> simp only [eqp, reduceCtorEq] at h <;> cases y <;> simp only [reduceCtorEq] at h <;> simp only [Rv] at hx hy <;> cases h
      · obtain ⟨A, B, rfl, _⟩ := hx; subst hy; simp [Op.equalIn, run_underlying hu]
      · obtain ⟨A, B, rfl, _⟩ := hy; subst hx; simp [Op.equalIn, run_underlying hu]
      · subst hx; subst hy; simp [Op.equalIn, run_underlying hu]
    case iface =>
      obtain ⟨mm, rfl⟩ := hd
      cases x <;> simp only [eqp, reduceCtorEq] at h <;> cases y <;> simp only [reduceCtorEq] at h <;> simp only [Rv] at hx hy <;> cases h
      · obtain ⟨W, rfl, _⟩ := hx; subst hy; simp [Op.equalIn, run_underlying hu]
      · obtain ⟨W, rfl, _⟩ := hy; subst hx; simp [Op.equalIn, run_underlying hu]
    case no => simp [eqp] at h
  · rw [hno] at h
    simp [eqp] at h

/-- the guard of a comparison lets plain kinds by -/
theorem eqp_guard {op : BinOp} {t : TypeId} {xo yo : Operand} {e : EqP} {x y : AV} {X Y : Value} {b : Bool} (hx : Rv P σ x X) (hy : Rv P σ y Y) (h : eqp e x y = some b) :
    eqGuard op t xo yo X Y = pure () := by
  cases x <;> cases e <;> simp only [eqp, reduceCtorEq] at h <;> simp only [Rv] at hx
  all_goals first
    | (subst hx; cases op <;> rfl)
    | (obtain ⟨rfl, _⟩ := hx; cases op <;> rfl)
    | (obtain ⟨L, _, rfl⟩ := hx; cases op <;> rfl)
    | (obtain ⟨L, _, rfl⟩ := hx; cases op <;> rfl)
    | (obtain ⟨A, B, rfl, _⟩ := hx; cases op <;> rfl)
    | (obtain ⟨A, rfl, _⟩ := hx; cases op <;> rfl)
    | (cases y <;> simp only [reduceCtorEq] at h; simp only [Rv] at hy; obtain ⟨A, rfl, _⟩ := hy; subst hx; cases op <;> rfl)
end Go.Ev

namespace Go.Ev
variable {P : Program} {σ : Env} {S : St} {w : World}

theorem intOfV_some {v : AV} {a : IntKind × Int} (h : intOfV v = some a) : v = .int a.1 a.2 := by
  cases v <;> simp only [intOfV, reduceCtorEq, Option.some.injEq] at h
  subst h; rfl
theorem strOfV_some {v : AV} {a : List Nat} (h : strOfV v = some a) : v = .str a := by
  cases v <;> simp only [strOfV, reduceCtorEq, Option.some.injEq] at h
  subst h; rfl

/-- what is asked of a comparison of structs and arrays -/
def EqSound (P : Program) : Prop := ∀ (σ : Env) (w : World) (t : TypeId) (fs : List (Nat × EqP)) (xs ys : List AV) (X Y : Value) (b : Bool), eqT P t = .struct fs → Rv P σ (.agg xs) X → Rv P σ (.agg ys) Y →
  eqs fs xs ys = some b → (∀ op xo yo, (eqGuard op t xo yo X Y).run P w = .ok () w) ∧ ∀ n, (Op.equalIn (n + 2) t X Y).run P w = .ok b w

theorem eqT_p {t : TypeId} {e : EqP} (h : eqT P t = .p e) : e = eqP P t ∨ e = .no := by
  unfold eqT at h
  split at h
  · rw [Bool.cond_eq_ite] at h
    split at h
    · cases h; exact .inr rfl
    · cases h
  · rw [Bool.cond_eq_ite] at h
    split at h
    · cases h; exact .inr rfl
    · cases h
  · cases h; exact .inl rfl

theorem eqv_sound (hE : EqSound P) {t : TypeId} {x y : AV} {X Y : Value} {b : Bool} (hx : Rv P σ x X) (hy : Rv P σ y Y) (h : eqv (eqT P t) x y = some b) :
    (∀ op xo yo, (eqGuard op t xo yo X Y).run P w = .ok () w) ∧ ∀ n, (Op.equalIn (n + 2) t X Y).run P w = .ok b w := by
  cases he : eqT P t with
  | p e =>
    rw [he] at h
    have h : eqp e x y = some b := h
    rcases eqT_p he with rfl | rfl
    · exact ⟨fun op xo yo => by rw [eqp_guard hx hy h]; rfl, fun n => eqp_sound hx hy h (n + 1)⟩
    · simp [eqp] at h
  | struct fs =>
    rw [he] at h
    cases x <;> simp only [eqv, reduceCtorEq] at h
    cases y <;> simp only [reduceCtorEq] at h
    obtain ⟨_, h⟩ := bsel_some h
    obtain ⟨_, h⟩ := bsel_some h
    exact hE σ w t fs _ _ X Y b he hx hy h

theorem bin_sound (hE : EqSound P) {op : BinOp} {t : TypeId} {xo yo : Operand} {x y v : AV} {X Y : Value} (hx : Rv P σ x X) (hy : Rv P σ y Y) (h : binV op (eqT P t) x y = some v) :
    ∃ V, (do eqGuard op t xo yo X Y; binOp op t X Y : Sem Value).run P w = .ok V w ∧ Rv P σ v V := by
  unfold binV at h
  split at h
  · rename_i a b ha hb
    have := intOfV_some ha
    subst this
    have := intOfV_some hb
    subst this
    simp only [Rv] at hx hy
    subst hx; subst hy
    obtain ⟨V, h1, h2⟩ := ints_sound (P := P) (σ := σ) (w := w) (t := t) h
    exact ⟨V, by simp [eqGuard_at_int, h1], h2⟩
  · rename_i hni
    split at h
    · rename_i a b ha hb
      have := strOfV_some ha
      subst this
      have := strOfV_some hb
      subst this
      simp only [Rv] at hx hy
      obtain ⟨rfl, hx⟩ := hx
      obtain ⟨rfl, hy⟩ := hy
      obtain ⟨V, h1, h2⟩ := str_sound (P := P) (σ := σ) (w := w) (t := t) hx hy h
      exact ⟨V, by simp [eqGuard_at_string, h1], h2⟩
    · rename_i hns
      unfold eqBin at h
      have key : ∀ b, eqv (eqT P t) x y = some b → (binOp .eql t X Y).run P w = .ok (.bool b) w ∧ (binOp .neq t X Y).run P w = .ok (.bool !b) w := by
        intro b hb
        have he := (eqv_sound (w := w) hE hx hy hb).2 9998
        have h1 : (Op.equal t X Y).run P w = .ok b w := he
        have hnn : ∀ k a k' b', ¬ (X = .int k a ∧ Y = .int k' b') := by
          rintro k a k' b' ⟨rfl, rfl⟩
          cases x <;> simp only [Rv] at hx <;> (try (simp at hx; done)) <;> (try (obtain ⟨_, hx⟩ := hx; simp at hx; done)) <;> (try (obtain ⟨_, _, hx⟩ := hx; simp at hx; done))
          cases y <;> simp only [Rv] at hy <;> (try (simp at hy; done)) <;> (try (obtain ⟨_, hy⟩ := hy; simp at hy; done)) <;> (try (obtain ⟨_, _, hy⟩ := hy; simp at hy; done))
          exact hni _ _ rfl rfl
        have hsn : ∀ a b', ¬ (X = .string a ∧ Y = .string b') := by
          rintro a b' ⟨rfl, rfl⟩
          cases x <;> simp only [Rv] at hx <;> (try (simp at hx; done)) <;> (try (obtain ⟨_, hx⟩ := hx; simp at hx; done)) <;> (try (obtain ⟨_, _, hx⟩ := hx; simp at hx; done))
          cases y <;> simp only [Rv] at hy <;> (try (simp at hy; done)) <;> (try (obtain ⟨_, hy⟩ := hy; simp at hy; done)) <;> (try (obtain ⟨_, _, hy⟩ := hy; simp at hy; done))
          exact hns _ _ rfl rfl
        have hff : ∀ k a, X ≠ .float k a := by
          rintro k a rfl
          cases x <;> simp only [Rv] at hx <;> (try (simp at hx; done)) <;> (try (obtain ⟨_, hx⟩ := hx; simp at hx; done)) <;> (try (obtain ⟨_, _, hx⟩ := hx; simp at hx; done))
        have hcc : ∀ k a b, X ≠ .complex k a b := by
          rintro k a b rfl
          cases x <;> simp only [Rv] at hx <;> (try (simp at hx; done)) <;> (try (obtain ⟨_, hx⟩ := hx; simp at hx; done)) <;> (try (obtain ⟨_, _, hx⟩ := hx; simp at hx; done))
        have hb : ∀ (op : BinOp), (op = .eql → binOp op t X Y = (do pure (.bool (← Op.equal t X Y)))) ∧ (op = .neq → binOp op t X Y = (do pure (.bool (!(← Op.equal t X Y))))) := by
          intro op
          constructor
          · rintro rfl
            unfold binOp
            split <;> first
              | rfl
              | (rename_i h; exact absurd ⟨rfl, rfl⟩ (hnn _ _ _ _))
              | (exact absurd rfl (hff _ _))
              | (exact absurd rfl (hcc _ _ _))
              | (exact absurd ⟨rfl, rfl⟩ (hsn _ _))
              | (exact absurd ⟨rfl, rfl⟩ (hnn _ _ _ _))
              | simp_all
          · rintro rfl
            unfold binOp
            split <;> first
              | rfl
              | (exact absurd rfl (hff _ _))
              | (exact absurd rfl (hcc _ _ _))
              | (exact absurd ⟨rfl, rfl⟩ (hsn _ _))
              | (exact absurd ⟨rfl, rfl⟩ (hnn _ _ _ _))
              | simp_all
        rw [(hb .eql).1 rfl, (hb .neq).2 rfl]
        simp [h1]
      cases op <;> simp only [reduceCtorEq] at h
      · obtain ⟨b, h1, h2⟩ := osel_eq_some h
        cases h2
        refine ⟨.bool b, ?_, by simp only [Rv]⟩
        simp [(eqv_sound (w := w) hE hx hy h1).1, (key b h1).1]
      · obtain ⟨b, h1, h2⟩ := osel_eq_some h
        cases h2
        refine ⟨.bool !b, ?_, by simp only [Rv, bnot_eq]⟩
        simp [(eqv_sound (w := w) hE hx hy h1).1, (key b h1).2]

theorem un_sound {op : UnOp} {x v : AV} {X : Value} (hx : Rv P σ x X) (h : unV op x = some v) : ∃ V, (Op.unary op X).run P w = .ok V w ∧ Rv P σ v V := by
  unfold unV at h
  split at h
  · simp only [Rv] at hx; subst hx; cases h
    exact ⟨_, rfl, by simp only [Rv, iSubV_eq]; rfl⟩
  · simp only [Rv] at hx; subst hx; cases h
    exact ⟨_, rfl, by simp only [Rv, bnot_eq]⟩
  · cases h
end Go.Ev

namespace Go.Ev
variable {P : Program} {σ : Env} {S : St} {w : World}

/-! ## Parts of values -/
theorem partOf_sound {t : TypeId} {agg : Bool} {n off : Nat} (ht : aggT P t = some (agg, n)) {cs : List AV} {C : List Value} (hC : Rvs P σ cs C) (h1 : ∀ u ∈ C, u.oneCell' = true) {v : AV}
    (h : partOf agg cs off n = some v) : ∃ V, (part t ⟨C⟩ off).run P w = .ok V w ∧ Rv P σ v V := by
  obtain ⟨d, i, hu, hi, hn, hd⟩ := aggT_some ht
  have hag : (isAgg t).run P w = .ok agg w := by
    simp only [isAgg, Sem.run_bind, run_underlying hu, Result.andThen_ok]
    cases d <;> simp_all [TypeDesc.isRow]
  unfold partOf at h
  cases agg with
  | true =>
    rw [bsel_true] at h
    obtain ⟨r, h2, h3⟩ := osel_eq_some h
    cases h3
    have hc := hC.cut h2
    refine ⟨.agg ⟨(C.drop off).take n⟩, ?_, by simp only [Rv]; exact ⟨_, rfl, hc.1, fun u hu => h1 u (List.mem_of_mem_drop (List.mem_of_mem_take hu))⟩⟩
    simp [part, hag, sizeOf, typeInfo, hi, hn, List.extract_eq_take_drop]
  | false =>
    rw [bsel_false, nth_eq] at h
    obtain ⟨V, h2, h3⟩ := hC.get h
    refine ⟨V, ?_, h3⟩
    simp [part, hag, h2]

theorem fld_sound {t : TypeId} {fs : Array Field} {k : Nat} {f : Field} {agg : Bool} {n : Nat} (ht : P.underlying t = some (.struct fs)) (hf : fs[k]? = some f) (ha : aggT P f.type = some (agg, n))
    {x v : AV} {X : Value} (hx : Rv P σ x X) (h : fldV x agg f.offset n = some v) : ∃ V, (Instr.field t X k).run P w = .ok V w ∧ Rv P σ v V := by
  cases x <;> simp only [fldV, reduceCtorEq] at h
  simp only [Rv] at hx
  obtain ⟨C, rfl, h2, h3⟩ := hx
  obtain ⟨V, h4, h5⟩ := partOf_sound (w := w) ha h2 h3 h
  exact ⟨V, by simp [Instr.field, run_underlying ht, hf, asAgg, h4], h5⟩

theorem faddr_sound {t : TypeId} {fs : Array Field} {k : Nat} {f : Field} {i : TypeInfo} (ht : P.underlying t = some (.struct fs)) (hf : fs[k]? = some f) (hi : P.info? f.type = some i) (h0 : i.size ≠ 0)
    {x v : AV} {X : Value} (hx : Rv P σ x X) (h : faddrV x f.offset = some v) : ∃ V, (Instr.fieldAt t X k).run P w = .ok V w ∧ Rv P σ v V := by
  cases x <;> simp only [faddrV, reduceCtorEq] at h
  cases h
  simp only [Rv] at hx
  obtain ⟨L, hL, rfl⟩ := hx
  refine ⟨.pointer (some ⟨L.r, L.d + _ + f.offset, none⟩), ?_, by simp only [Rv]; exact ⟨L, hL, by rw [Nat.add_assoc]⟩⟩
  simp [Instr.fieldAt, run_underlying ht, hf, Instr.sureAddr, fieldPlace, sizeOf, typeInfo, hi, h0, Addr.add_lit]

theorem natOf_some {v : AV} {n : Nat} (h : natOf v = some n) : ∃ k, v = .int k (.ofNat n) := by
  unfold natOf at h
  split at h
  · cases h; exact ⟨_, rfl⟩
  · cases h

theorem blt_lt {a b : Nat} (h : Nat.blt a b = true) : a < b := Nat.le_of_ble_eq_true h

theorem iaddr_sound_arr {t e : TypeId} {n : Nat} {i : TypeInfo} (ht : P.underlying t = some (.array n e)) (hi : P.info? e = some i) {x v : AV} {X I : Value} {j : Nat} {k : IntKind} (hx : Rv P σ x X) (hI : I = .int k (.ofNat j))
    (h : iaddrV (.arr n i.size) x j = some v) : ∃ V, (Instr.indexAt t X I).run P w = .ok V w ∧ Rv P σ v V := by
  subst hI
  cases x <;> simp only [iaddrV, reduceCtorEq] at h
  obtain ⟨h1, h⟩ := bsel_some h
  cases h
  have h1 := blt_lt h1
  simp only [Rv] at hx
  obtain ⟨L, hL, rfl⟩ := hx
  refine ⟨.pointer (some ⟨L.r, L.d + _ + j * i.size, none⟩), ?_, by simp only [Rv]; exact ⟨L, hL, by rw [Nat.add_assoc]⟩⟩
  have hb : (0 : Int) ≤ Int.ofNat j ∧ Int.ofNat j < (n : Int) := ⟨by simp, by simpa using h1⟩
  simp [Instr.indexAt, asIntOf, run_underlying ht, Instr.sureAddr, sizeOf, typeInfo, hi, Addr.add_lit, h1]

theorem iaddr_sound_sl {t e : TypeId} {i : TypeInfo} (ht : P.underlying t = some (.slice e)) (hi : P.info? e = some i) {x v : AV} {X I : Value} {j : Nat} {k : IntKind} (hx : Rv P σ x X) (hI : I = .int k (.ofNat j))
    (h : iaddrV (.slice i.size) x j = some v) : ∃ V, (Instr.indexAt t X I).run P w = .ok V w ∧ Rv P σ v V := by
  subst hI
  cases x <;> simp only [iaddrV, reduceCtorEq] at h
  obtain ⟨h1, h⟩ := bsel_some h
  cases h
  have h1 := blt_lt h1
  simp only [Rv] at hx
  obtain ⟨L, hL, rfl⟩ := hx
  refine ⟨.pointer (some ⟨L.r, L.d + _ + j * i.size, none⟩), ?_, by simp only [Rv]; exact ⟨L, hL, by rw [Nat.add_assoc]⟩⟩
  simp [Instr.indexAt, asIntOf, run_underlying ht, sizeOf, typeInfo, hi, Addr.add_lit, h1]

theorem idxArr_sound {t e : TypeId} {n : Nat} {agg : Bool} {s : Nat} (ht : P.underlying t = some (.array n e)) (ha : aggT P e = some (agg, s)) {x v : AV} {X I : Value} {j : Nat} {k : IntKind} (hx : Rv P σ x X) (hI : I = .int k (.ofNat j))
    (h : idxArrV x agg n s j = some v) : ∃ V, (Instr.index t X I).run P w = .ok V w ∧ Rv P σ v V := by
  subst hI
  cases x <;> simp only [idxArrV, reduceCtorEq] at h
  obtain ⟨h1, h⟩ := bsel_some h
  have h1 := blt_lt h1
  simp only [Rv] at hx
  obtain ⟨C, rfl, h2, h3⟩ := hx
  obtain ⟨d, i, hu, hi, hn, hd⟩ := aggT_some ha
  obtain ⟨V, h4, h5⟩ := partOf_sound (w := w) ha h2 h3 h
  exact ⟨V, by simp [Instr.index, asIntOf, run_underlying ht, sizeOf, typeInfo, hi, hn, h1, h4], h5⟩

theorem idxStr_sound {t : TypeId} (ht : P.underlying t = some .string) {x v : AV} {X I : Value} {j : Nat} {k : IntKind} (hx : Rv P σ x X) (hI : I = .int k (.ofNat j))
    (h : idxStrV x j = some v) : ∃ V, (Instr.index t X I).run P w = .ok V w ∧ Rv P σ v V := by
  subst hI
  cases x <;> simp only [idxStrV, reduceCtorEq] at h
  rename_i s
  obtain ⟨b, h1, h2⟩ := osel_eq_some h
  cases h2
  rw [nth_eq] at h1
  simp only [Rv] at hx
  obtain ⟨rfl, hb⟩ := hx
  have hj : j < s.length := by
    rcases Nat.lt_or_ge j s.length with h3 | h3
    · exact h3
    · rw [List.getElem?_eq_none h3] at h1; cases h1
  have hsz : j < (mkStr s).size := by rw [mkStr_size]; exact hj
  have hg : (mkStr s)[j]? = some (UInt8.ofNat b) := by
    rw [getElem?_pos (mkStr s) j hsz]
    congr 1
    show (mkStr s).data[j] = _
    simp only [mkStr, List.getElem_toArray, List.getElem_map]
    rw [List.getElem?_eq_getElem hj] at h1
    cases h1
    rfl
  have hbb : b < 256 := hb b (List.mem_of_getElem? h1)
  refine ⟨.int .u8 (.ofNat b), ?_, by simp only [Rv]⟩
  have h0 : (0 : Int) ≤ Int.ofNat j := by simp
  have h9 : (Int.ofNat j).toNat = j := rfl
  simp only [Instr.index, asIntOf, Sem.run_bind, Sem.run_pure, Result.andThen_ok, run_underlying ht, if_pos h0, h9, hg]
  show Result.ok (Value.int .u8 ((UInt8.ofNat b).toNat : Int)) w = _
  rw [byteNat hbb]
  rfl

theorem extract_sound {x v : AV} {X : Value} {i : Nat} (hx : Rv P σ x X) (h : extractV x i = some v) : ∃ V, (Instr.extract X i).run P w = .ok V w ∧ Rv P σ v V := by
  cases x <;> simp only [extractV, reduceCtorEq] at h
  rw [nth_eq] at h
  simp only [Rv] at hx
  obtain ⟨C, rfl, h2⟩ := hx
  obtain ⟨V, h3, h4⟩ := h2.get h
  exact ⟨V, by simp [Instr.extract, h3], h4⟩

theorem pick_sound {c : AV} {C : Value} {a b : Opd} {F : Fr} {v : AV} {A B : Value} (hc : Rv P σ c C) (ha : Rv P σ (a.val F) A) (hb : Rv P σ (b.val F) B) (h : qPickB c a b F = some v) :
    ∃ V, (do pure (Next.value (if ← asBool C then A else B)) : Sem Next).run P w = .ok (.value V) w ∧ Rv P σ v V := by
  cases c <;> simp only [qPickB, reduceCtorEq] at h
  cases h
  simp only [Rv] at hc
  subst hc
  rename_i t
  cases t
  · exact ⟨B, by simp [asBool], hb⟩
  · exact ⟨A, by simp [asBool], ha⟩

/-! ### a composite value -/
theorem foldl_zipIdx_mid : ∀ (l pre old post : List Value) (off i : Nat), pre.length = off + i → old.length = l.length →
    (l.zipIdx i).foldl (fun (a : Array Value) (p : Value × Nat) => a.setIfInBounds (off + p.2) p.1) ⟨pre ++ old ++ post⟩ = ⟨pre ++ l ++ post⟩
  | [], pre, old, post, off, i, _, h => by
    have : old = [] := List.eq_nil_of_length_eq_zero h
    subst this
    rfl
  | x :: l, pre, [], post, off, i, _, h => by simp at h
  | x :: l, pre, o :: old, post, off, i, hp, h => by
    rw [List.zipIdx_cons, List.foldl_cons]
    have : (Array.mk (pre ++ o :: old ++ post)).setIfInBounds (off + i) x = ⟨(pre ++ [x]) ++ old ++ post⟩ := by
      apply Array.ext'
      rw [Array.toList_setIfInBounds, ← hp]
      simp
    rw [this, foldl_zipIdx_mid l (pre ++ [x]) old post off (i + 1) (by simp; omega) (by simpa using h)]
    simp
theorem foldl_zipIdx_set (cs : List Value) (l : List Value) (off : Nat) (h : off + l.length ≤ cs.length) :
    (l.zipIdx).foldl (fun (a : Array Value) (p : Value × Nat) => a.setIfInBounds (off + p.2) p.1) ⟨cs⟩ = ⟨cs.take off ++ l ++ cs.drop (off + l.length)⟩ := by
  have := foldl_zipIdx_mid l (cs.take off) ((cs.drop off).take l.length) (cs.drop (off + l.length)) off 0 (by simp; omega) (by simp; omega)
  rw [← this]
  congr 2
  rw [List.append_assoc, ← List.drop_drop, List.take_append_drop, List.take_append_drop]

theorem fill_sound {place : Nat → Option (Nat × Nat)} : ∀ {ps : List (Nat × Value)} {qs : List (Nat × Nat × AV)} {z r : List AV} {Z : List Value},
    ps.length = qs.length → (∀ (j i : Nat) (V : Value) (off n : Nat) (v : AV), ps[j]? = some (i, V) → qs[j]? = some (off, n, v) → place i = some (off, n) ∧ Rv P σ v V) →
    Rvs P σ z Z → (∀ u ∈ Z, u.oneCell' = true) → fillP z qs = some r → ∃ R, Instr.fill place ⟨Z⟩ ps = some ⟨R⟩ ∧ Rvs P σ r R ∧ (∀ u ∈ R, u.oneCell' = true)
  | [], [], z, r, Z, _, _, hz, h1, h => by
    simp only [fillP, Option.some.injEq] at h
    subst h
    exact ⟨Z, rfl, hz, h1⟩
  | [], _ :: _, _, _, _, hl, _, _, _, _ => by simp at hl
  | _ :: _, [], _, _, _, hl, _, _, _, _ => by simp at hl
  | (i, V) :: ps, (off, n, v) :: qs, z, r, Z, hl, hp, hz, h1, h => by
    simp only [fillP] at h
    obtain ⟨cs, hcs, h⟩ := osel_eq_some h
    obtain ⟨hn, h⟩ := bsel_some h
    obtain ⟨z', hput, h⟩ := osel_eq_some h
    rw [lenL_eq, Nat.beq_eq] at hn
    have h0 := hp 0 i V off n v rfl rfl
    obtain ⟨hc1, hc2⟩ := Rv_cells h0.2 hcs
    have hle := (put_some hput).1
    have hVl : V.cells.toList.length = n := by rw [hc1.length, hn]
    have hZl := hz.length
    have hz' := hz.put hc1 hput
    have hflat : ∀ u ∈ Z.take off ++ V.cells.toList ++ Z.drop (off + V.cells.toList.length), u.oneCell' = true := fun u hu => by
      simp only [List.mem_append] at hu
      rcases hu with (hu | hu) | hu
      · exact h1 u (List.mem_of_mem_take hu)
      · exact hc2 u hu
      · exact h1 u (List.mem_of_mem_drop hu)
    obtain ⟨R, hR1, hR2, hR3⟩ := fill_sound (place := place) (ps := ps) (qs := qs) (by simpa using hl) (fun j i V off n v h1 h2 => hp (j + 1) i V off n v h1 h2) hz' hflat h
    refine ⟨R, ?_, hR2, hR3⟩
    simp only [Instr.fill, h0.1]
    have hVs : V.cells.size = n := by rw [← hVl]; simp
    rw [if_neg (by simp [hVs]; omega)]
    have hf := foldl_zipIdx_set Z V.cells.toList off (by rw [hVl]; omega)
    have he : V.cells.zipIdx.foldl (fun (cs : Array Value) (x : Value × Nat) => cs.setIfInBounds (off + x.2) x.1) ⟨Z⟩ = ⟨Z.take off ++ V.cells.toList ++ Z.drop (off + V.cells.toList.length)⟩ := by
      rw [← hf, ← Array.foldl_toList, Array.toList_zipIdx]
    rw [← hR1]
    congr 1
end Go.Ev

namespace Go.Ev
variable {P : Program} {σ : Env} {S : St} {w : World}

/-! ## build -/
theorem cParts_get {place : Nat → Option (Nat × Nat)} {F : Fr} {a : Act} (hF : FrR P σ F a.tmps) (hR : Rep P σ S w) : ∀ {ps : List (Nat × Operand)} {qs : List (Nat × Nat × Opd)}, cParts P place ps = some qs →
    (ps.map fun p => (p.1, a.eval p.2)).length = (partsV F qs).length ∧
    ∀ (j i : Nat) (V : Value) (off n : Nat) (v : AV), (ps.map fun p => (p.1, a.eval p.2))[j]? = some (i, V) → (partsV F qs)[j]? = some (off, n, v) → place i = some (off, n) ∧ Rv P σ v V
  | [], qs, h => by
    simp only [cParts, Option.some.injEq] at h
    subst h
    exact ⟨rfl, fun j i V off n v h1 => by simp at h1⟩
  | (i, x) :: ps, qs, h => by
    simp only [cParts] at h
    split at h
    · rename_i off n X qs' hp hx hqs
      cases h
      obtain ⟨h1, h2⟩ := cParts_get hF hR hqs
      refine ⟨by simp [partsV] at h1 ⊢; exact h1, fun j i' V off' n' v hj1 hj2 => ?_⟩
      cases j with
      | zero =>
        simp only [List.map_cons, List.getElem?_cons_zero, partsV, Option.some.injEq, Prod.mk.injEq] at hj1 hj2
        obtain ⟨rfl, rfl⟩ := hj1
        obtain ⟨rfl, rfl, rfl⟩ := hj2
        exact ⟨hp, opd_sound hF hR hx⟩
      | succ j =>
        simp only [List.map_cons, List.getElem?_cons_succ, partsV] at hj1 hj2
        exact h2 j i' V off' n' v hj1 hj2
    · cases h

theorem zeroT_some {t : TypeId} {z : AV} (h : zeroT P t = some z) : ∃ i Z, P.info? t = some i ∧ i.zero = some Z ∧ Rv P σ z Z := by
  unfold zeroT at h
  split at h
  · rename_i i hi
    split at h
    · rename_i Z hz
      exact ⟨i, Z, hi, hz, Rv_ofValue h⟩
    · cases h
  · cases h
theorem zeroCellsT_some {t : TypeId} {z : List AV} (h : zeroCellsT P t = some z) : ∃ i Z, P.info? t = some i ∧ i.zero = some Z ∧ Rvs P σ z Z.cells.toList ∧ ∀ u ∈ Z.cells.toList, u.oneCell' = true := by
  unfold zeroCellsT at h
  rw [Option.bind_eq_some_iff] at h
  obtain ⟨v, h1, h2⟩ := h
  obtain ⟨i, Z, h3, h4, h5⟩ := zeroT_some (σ := σ) h1
  exact ⟨i, Z, h3, h4, Rv_cells h5 h2⟩

theorem run_zero {t : TypeId} {i : TypeInfo} {Z : Value} (hi : P.info? t = some i) (hz : i.zero = some Z) : (zeroValue t).run P w = .ok Z w := by
  simp [zeroValue, typeInfo, hi, hz]

theorem mapM_run {α β : Type} {g : α → Sem β} (w : World) : ∀ (l : List α) (r : List β), (∀ (j : Nat) (f : α) (p : β), l[j]? = some f → r[j]? = some p → (g f).run P w = .ok p w) → l.length = r.length →
    (l.mapM g).run P w = .ok r w
  | [], [], _, _ => rfl
  | [], _ :: _, _, h => by simp at h
  | _ :: _, [], _, h => by simp at h
  | f :: l, p :: r, h, hl => by
    have h0 := h 0 f p rfl rfl
    have ih := mapM_run w l r (fun j f p h1 h2 => h (j + 1) f p h1 h2) (by simpa using hl)
    rw [List.mapM_cons]
    simp only [Sem.run_bind, h0, ih, Result.andThen_ok, Sem.run_pure]

theorem places_of_known : ∀ (fs : List Field), fieldsKnown P fs = true → ∃ r : List (Nat × Nat), r.length = fs.length ∧ ∀ (j : Nat) (f : Field) (p : Nat × Nat), fs[j]? = some f → r[j]? = some p → ∃ i, P.info? f.type = some i ∧ p = (f.offset, i.size)
  | [], _ => ⟨[], rfl, fun j f p h => by simp at h⟩
  | f :: fs, h => by
    simp only [fieldsKnown, Bool.and_eq_true] at h
    obtain ⟨r, h1, h2⟩ := places_of_known fs h.2
    obtain ⟨i, hi⟩ := Option.isSome_iff_exists.1 h.1
    refine ⟨(f.offset, i.size) :: r, by simp [h1], fun j g p hj1 hj2 => ?_⟩
    cases j with
    | zero => simp at hj1 hj2; subst hj1; subst hj2; exact ⟨i, hi, rfl⟩
    | succ j => exact h2 j g p (by simpa using hj1) (by simpa using hj2)

theorem build_struct_sound {t : TypeId} {fs : Array Field} {z : List AV} {ps : Array (Nat × Operand)} {qs : List (Nat × Nat × Opd)} {F : Fr} {a : Act} (hF : FrR P σ F a.tmps) (hR : Rep P σ S w)
    (ht : P.underlying t = some (.struct fs)) (hk : fieldsKnown P fs.toList = true) (hz : zeroCellsT P t = some z)
    (hq : cParts P (placeOf P fs) ps.toList = some qs) {cs : List AV} (h : fillP z (partsV F qs) = some cs) :
    ∃ V, (Instr.build t (ps.map fun (i, x) => (i, a.eval x))).run P w = .ok V w ∧ Rv P σ (.agg cs) V := by
  obtain ⟨i, Z, hi, hZ, hz1, hz2⟩ := zeroCellsT_some (σ := σ) hz
  obtain ⟨r, hr1, hr2⟩ := places_of_known _ hk
  obtain ⟨hl, hp⟩ := cParts_get hF hR hq
  have hplace : ∀ i, placeOf P fs i = r[i]? := by
    intro i
    unfold placeOf
    rw [← Array.getElem?_toList]
    cases hfi : fs.toList[i]? with
    | none =>
      have : fs.toList.length ≤ i := List.getElem?_eq_none_iff.1 hfi
      rw [List.getElem?_eq_none (by omega)]
    | some f =>
      have hlt : i < r.length := by rw [hr1]; exact (List.getElem?_eq_some_iff.1 hfi).1
      obtain ⟨i', h1, h2⟩ := hr2 i f r[i] hfi (List.getElem?_eq_getElem hlt)
      rw [List.getElem?_eq_getElem hlt, h2]
      simp [h1]
  have hfun := funext hplace
  rw [hfun] at hp
  obtain ⟨R, h1, h2, h3⟩ := fill_sound (place := fun i => r[i]?) hl hp hz1 hz2 h
  refine ⟨.agg ⟨R⟩, ?_, by simp only [Rv]; exact ⟨R, rfl, h2, h3⟩⟩
  have hm := mapM_run (P := P) (g := fun f : Field => (do pure (f.offset, ← sizeOf f.type) : Sem (Nat × Nat))) w fs.toList r (fun j f p h1 h2 => by
    obtain ⟨i', h3, rfl⟩ := hr2 j f p h1 h2
    simp [sizeOf, typeInfo, h3]) hr1.symm
  have hm' : (fs.mapM fun f => (do pure (f.offset, ← sizeOf f.type) : Sem (Nat × Nat))).run P w = .ok r.toArray w := by
    rw [Array.mapM_eq_mapM_toList]
    simp only [Sem.run_map, hm, Result.andThen_ok]
  have hpl : (ps.map fun (i, x) => (i, a.eval x)).toList = ps.toList.map fun p => (p.1, a.eval p.2) := by simp
  simp only [Instr.build, Sem.run_bind, run_zero hi hZ, Result.andThen_ok, run_underlying ht, hm', hpl]
  have hfill : Instr.fill (fun x => (r.toArray)[x]?) Z.cells (ps.toList.map fun p => (p.1, a.eval p.2)) = some ⟨R⟩ := by
    rw [← h1]
    congr 1
    funext x
    simp
  rw [hfill]
  rfl

theorem build_array_sound {t e : TypeId} {n : Nat} {i : TypeInfo} {z : List AV} {ps : Array (Nat × Operand)} {qs : List (Nat × Nat × Opd)} {F : Fr} {a : Act} (hF : FrR P σ F a.tmps) (hR : Rep P σ S w)
    (ht : P.underlying t = some (.array n e)) (hie : P.info? e = some i) (hz : zeroCellsT P t = some z)
    (hq : cParts P (fun j => some (j * i.size, i.size)) ps.toList = some qs) {cs : List AV} (h : fillP z (partsV F qs) = some cs) :
    ∃ V, (Instr.build t (ps.map fun (i, x) => (i, a.eval x))).run P w = .ok V w ∧ Rv P σ (.agg cs) V := by
  obtain ⟨i', Z, hi, hZ, hz1, hz2⟩ := zeroCellsT_some (σ := σ) hz
  obtain ⟨hl, hp⟩ := cParts_get hF hR hq
  obtain ⟨R, h1, h2, h3⟩ := fill_sound hl hp hz1 hz2 h
  refine ⟨.agg ⟨R⟩, ?_, by simp only [Rv]; exact ⟨R, rfl, h2, h3⟩⟩
  have hpl : (ps.map fun (i, x) => (i, a.eval x)).toList = ps.toList.map fun p => (p.1, a.eval p.2) := by simp
  have h1' : Instr.fill (fun j => some (j * i.size, i.size)) Z.cells (ps.toList.map fun p => (p.1, a.eval p.2)) = some ⟨R⟩ := h1
  simp only [Instr.build, Sem.run_bind, run_zero hi hZ, Result.andThen_ok, run_underlying ht, sizeOf, typeInfo, run_program, hie, Sem.run_pure, hpl, h1']

/-! ## conversions -/
theorem bytesOf_some : ∀ {cs : List AV} {s : List Nat} {C : List Value}, bytesOf cs = some s → Rvs P σ cs C → C = s.map (fun b => Value.int .u8 (Int.ofNat b)) ∧ Bytes s
  | [], s, C, h, hC => by
    simp only [bytesOf, Option.some.injEq] at h
    subst h
    rw [Rvs_nil] at hC
    exact ⟨hC, fun x hx => by cases hx⟩
  | c :: cs, s, C, h, hC => by
    rw [Rvs_cons] at hC
    obtain ⟨V, Ws, rfl, hV, hW⟩ := hC
    unfold bytesOf at h
    split at h
    · rename_i e; cases e
    · rename_i n vs e
      cases e
      obtain ⟨h1, h⟩ := bsel_some h
      obtain ⟨r, h2, h⟩ := osel_eq_some h
      cases h
      simp only [Rv] at hV
      obtain ⟨h3, h4⟩ := bytesOf_some h2 hW
      subst hV
      have := Nat.le_of_ble_eq_true h1
      exact ⟨by simp [h3], fun x hx => by rcases List.mem_cons.1 hx with rfl | hx; omega; exact h4 x hx⟩
    · cases h

end Go.Ev

namespace Go.Ev
variable {P : Program} {σ : Env} {S : St} {w : World}

theorem foldl_push : ∀ (s : List Nat) (acc : ByteArray), (s.map Int.ofNat).foldl (fun r n => r.push (UInt8.ofNat n.toNat)) acc = ⟨acc.data ++ (s.map UInt8.ofNat).toArray⟩
  | [], acc => by simp
  | b :: s, acc => by
    rw [List.map_cons, List.foldl_cons, foldl_push s]
    simp [ByteArray.push]

theorem strOfCells_sound (hR : Rep P σ S w) {b off len : Nat} {L : Loc} (hL : σ b = some L) {v : AV} (h : strOfCells S.h b off len = some v) :
    ∃ V, (∀ cap, (Conv.bytesToString (.slice (some ⟨L.r, L.d + off, none⟩) len cap)).run P w = .ok V w) ∧ Rv P σ v V := by
  obtain ⟨cs, h1, h⟩ := osel_eq_some h
  obtain ⟨s, h2, h⟩ := osel_eq_some h
  cases h
  obtain ⟨L', Cs, hL', h3, h4, h5, h6⟩ := loadN_some hR h1
  rw [hL] at hL'; cases hL'
  obtain ⟨h7, h8⟩ := bytesOf_some h2 h3
  have hl : (loadCells ⟨L.r, L.d + off, none⟩ len).run P w = .ok ((s.map Int.ofNat).map (Value.int .u8)).toArray w := by
    have := run_loadCells_list (P := P) w ⟨L.r, L.d + off, none⟩ Cs (fun j v hv => by rw [Addr.add_mid]; exact h6 j v hv)
    rw [h4] at this
    rw [this, h7]
    simp
  refine ⟨_, fun cap => run_bytesToString w _ len cap _ hl, ?_⟩
  simp only [Rv]
  refine ⟨?_, h8⟩
  rw [foldl_push]
  congr 2
  show #[] ++ (s.map UInt8.ofNat).toArray = _
  simp

theorem conv_sound {src dst : TypeId} {k : ConvK} (hR : Rep P σ S w) {x v : AV} {X : Value} (hx : Rv P σ x X) (h : convV k x S.h = some v)
    (hk : match k with
      | .int k => (∃ j, P.underlying src = some (.int j)) ∧ P.underlying dst = some (.int k)
      | .same => P.underlying src = some .string ∧ P.underlying dst = some .string
      | .bytesToStr => ∃ e, P.underlying src = some (.slice e) ∧ P.underlying e = some (.int .u8) ∧ P.underlying dst = some .string
      | .intToStr => (∃ j, P.underlying src = some (.int j)) ∧ P.underlying dst = some .string) :
    ∃ V, (convert src dst X).run P w = .ok V w ∧ Rv P σ v V := by
  cases k <;> cases x <;> simp only [convV, reduceCtorEq] at h <;> simp only at hk
  · obtain ⟨⟨j, h1⟩, h2⟩ := hk
    simp only [Rv] at hx; subst hx; cases h
    refine ⟨_, ?_, by simp only [Rv, wrapF_eq]; rfl⟩
    simp [convert, run_underlying h1, run_underlying h2, Conv.intToInt]
  · obtain ⟨h1, h2⟩ := hk
    simp only [Rv] at hx; obtain ⟨rfl, hb⟩ := hx; cases h
    refine ⟨.string (mkStr _), ?_, by simp only [Rv]; exact ⟨rfl, hb⟩⟩
    simp [convert, run_underlying h1, run_underlying h2]
  · obtain ⟨e, h1, h2, h3⟩ := hk
    simp only [Rv] at hx
    obtain ⟨L, hL, rfl⟩ := hx
    obtain ⟨V, h4, h5⟩ := strOfCells_sound hR hL h
    exact ⟨V, by rw [run_convert_bytes_string w src dst e _ _ _ h1 h2 h3]; exact h4 _, h5⟩
  · obtain ⟨e, h1, h2, h3⟩ := hk
    simp only [Rv] at hx; subst hx; cases h
    refine ⟨.string .empty, by rw [run_convert_bytes_string w src dst e _ _ _ h1 h2 h3]; rfl, ?_⟩
    simp only [Rv]
    exact ⟨rfl, fun x hx => by cases hx⟩
  · obtain ⟨e, h1, h2, h3⟩ := hk
    simp only [Rv] at hx; obtain ⟨a, c, rfl⟩ := hx; cases h
    refine ⟨.string .empty, by rw [run_convert_bytes_string w src dst e _ _ _ h1 h2 h3, run_bytesToString w a 0 c [] rfl]; rfl, ?_⟩
    simp only [Rv]
    exact ⟨rfl, fun x hx => by cases hx⟩
  · obtain ⟨⟨j, h1⟩, h2⟩ := hk
    rename_i kk n
    cases n with
    | negSucc m => simp at h
    | ofNat m =>
      simp only at h
      obtain ⟨h3, h⟩ := bsel_some h
      cases h
      have h3 := Nat.le_of_ble_eq_true h3
      simp only [Rv] at hx; subst hx
      refine ⟨.string (mkStr [m]), ?_, by simp only [Rv]; exact ⟨trivial, fun x hx => by simp at hx; omega⟩⟩
      have hv : Utf8.valid (Int.ofNat m) = true := by
        simp [Utf8.valid]
        omega
      have h9 : (Int.ofNat m).toNat = m := rfl
      simp only [convert, Sem.run_bind, run_underlying h1, run_underlying h2, Result.andThen_ok, Conv.intToString, Sem.run_pure, Utf8.encode, hv, if_true, h9]
      rw [if_pos (by omega)]
      rfl

/-! ## slice expressions -/
theorem optNat_bound {F : Fr} {a : Act} (hF : FrR P σ F a.tmps) (hR : Rep P σ S w) {d y m : Nat} {xo : Option Operand} {X : Option Opd} (hx : cOpt P xo = some X) (h : optNat F d X = some m) (hm : xo.isSome = true → m ≤ y) (code : BoundsCode) :
    (match xo.map a.eval with
    | some v => Instr.sliceBound v y code
    | none => pure d).run P w = .ok m w := by
  cases xo with
  | none =>
    simp only [cOpt, Option.some.injEq] at hx
    subst hx
    simp only [optNat, Option.some.injEq] at h
    subst h
    rfl
  | some x =>
    simp only [cOpt, Option.map_eq_some_iff] at hx
    obtain ⟨X', hx, rfl⟩ := hx
    simp only [optNat] at h
    obtain ⟨k, hk⟩ := natOf_some h
    have := opd_sound hF hR hx
    rw [hk] at this
    simp only [Rv] at this
    simp only [Option.map_some, this]
    have hm := hm rfl
    have := run_sliceBound (P := P) w k (Int.ofNat m) y code (by simp) (by simpa using hm)
    simpa using this

theorem bounds_some {len cap : Nat} {lo hi mx : Option Opd} {F : Fr} {x : Nat × Nat × Nat} (h : bounds len cap lo hi mx F = some x) :
    optNat F cap mx = some x.2.2 ∧ optNat F len hi = some x.2.1 ∧ optNat F 0 lo = some x.1 ∧ x.2.2 ≤ cap ∧ x.2.1 ≤ x.2.2 ∧ x.1 ≤ x.2.1 := by
  unfold bounds at h
  obtain ⟨m, h1, h⟩ := osel_eq_some h
  obtain ⟨h', h2, h⟩ := osel_eq_some h
  obtain ⟨l, h3, h⟩ := osel_eq_some h
  obtain ⟨h4, h⟩ := bsel_some h
  obtain ⟨h5, h⟩ := bsel_some h
  obtain ⟨h6, h⟩ := bsel_some h
  cases h
  exact ⟨h1, h2, h3, Nat.le_of_ble_eq_true h4, Nat.le_of_ble_eq_true h5, Nat.le_of_ble_eq_true h6⟩

theorem cOpt_isSome {xo : Option Operand} {X : Option Opd} (h : cOpt P xo = some X) : X.isNone = xo.isNone := by
  cases xo with
  | none => simp only [cOpt, Option.some.injEq] at h; subst h; rfl
  | some x => simp only [cOpt, Option.map_eq_some_iff] at h; obtain ⟨_, _, rfl⟩ := h; rfl

/-- the bounds, where the capacity may be greater by e if no greatest bound is given -/
theorem bounds_sound {F : Fr} {a : Act} (hF : FrR P σ F a.tmps) (hR : Rep P σ S w) {isSlice : Bool} {len cap e : Nat} {lo hi mx : Option Operand} {Lo Hi Mx : Option Opd} (hlo : cOpt P lo = some Lo) (hhi : cOpt P hi = some Hi) (hmx : cOpt P mx = some Mx)
    (hhm : mx.isSome = true → hi.isSome = true) {x : Nat × Nat × Nat} (h : bounds len cap Lo Hi Mx F = some x) :
    (Instr.sliceBounds isSlice len (cap + e) (lo.map a.eval) (hi.map a.eval) (mx.map a.eval)).run P w = .ok (x.1, x.2.1, if mx.isNone = true then x.2.2 + e else x.2.2) w := by
  obtain ⟨h1, h2, h3, h4, h5, h6⟩ := bounds_some h
  have hM : ∀ code, (match mx.map a.eval with
      | some v => Instr.sliceBound v (cap + e) code
      | none => pure (cap + e)).run P w = .ok (if mx.isNone = true then x.2.2 + e else x.2.2) w := by
    intro code
    cases mx with
    | none =>
      simp only [cOpt, Option.some.injEq] at hmx
      subst hmx
      simp only [optNat, Option.some.injEq] at h1
      rw [← h1]
      rfl
    | some m =>
      have := optNat_bound (d := cap) (y := cap + e) hF hR hmx h1 (fun _ => by omega) code
      simpa using this
  have hH : ∀ code, (match hi.map a.eval with
      | some v => Instr.sliceBound v (if mx.isNone = true then x.2.2 + e else x.2.2) code
      | none => pure len).run P w = .ok x.2.1 w := fun code => optNat_bound hF hR hhi h2 (fun _ => by split <;> omega) code
  have hL : ∀ code, (match lo.map a.eval with
      | some v => Instr.sliceBound v x.2.1 code
      | none => pure 0).run P w = .ok x.1 w := fun code => optNat_bound hF hR hlo h3 (fun _ => h6) code
  unfold Instr.sliceBounds
  cases mx with
  | none =>
    have hM' := hM .slice3Alen
    simp only [Option.map_none] at hM' ⊢
    simp only [Option.isNone_none, if_true] at hM' hH ⊢
    cases hi with
    | none =>
      have hH' := hH .sliceB
      have hL' := hL .sliceB
      simp only [Option.map_none] at hH' ⊢
      simp only [Sem.run_bind, hM', hH', Result.andThen_ok, Option.isSome_none, if_false, Bool.false_eq_true]
      cases lo <;> simp_all
    | some hh =>
      have hH' := hH (if isSlice = true then .sliceAcap else .sliceAlen)
      have hL' := hL .sliceB
      simp only [Option.map_some] at hH' ⊢
      simp only [Sem.run_bind, hM', hH', Result.andThen_ok, Option.isSome_none, if_false, Bool.false_eq_true]
      cases lo <;> simp_all
  | some m =>
    cases hi with
    | none => simp at hhm
    | some hh =>
      have hM' := hM (if isSlice = true then .slice3Acap else .slice3Alen)
      have hH' := hH .slice3B
      have hL' := hL .slice3C
      simp only [Option.map_some] at hM' hH' ⊢
      simp only [Option.isNone_some, if_false, Bool.false_eq_true] at hM' hH' ⊢
      simp only [Sem.run_bind, hM', hH', Result.andThen_ok, Option.isSome_some, if_true]
      cases lo <;> simp_all
end Go.Ev
