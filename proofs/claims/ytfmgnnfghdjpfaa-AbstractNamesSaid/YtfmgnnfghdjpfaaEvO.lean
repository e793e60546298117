import Derived.Test.YtfmgnnfghdjpfaaEvN
import Derived.Laws.BytesString
import Derived.Laws.Slices
namespace Go.Ev
variable {P : Program} {σ : Env} {S : St} {w : World}

theorem foldl_push : ∀ (s : List Nat) (acc : ByteArray), (s.map Int.ofNat).foldl (fun r n => r.push (UInt8.ofNat n.toNat)) acc = ⟨acc.data ++ (s.map UInt8.ofNat).toArray⟩
  | [], acc => by simp
  | b :: s, acc => by
    rw [List.map_cons, List.foldl_cons, foldl_push s]
    simp [ByteArray.push]

theorem strOfCells_sound (hR : Rep P σ S w) {b off len : Nat} {L : Loc} (hL : σ b = some L) {v : AV} (h : strOfCells S.h b off len = some v) :
    ∃ V, (∀ cap, (Conv.bytesToString (.slice (some ⟨L.r, L.d + off, none⟩) len cap)).run P w = .ok V w) ∧ Rv P σ v V := by
  obtain ⟨cs, h1, h⟩ := osel_eq_some h
  obtain ⟨s, h2, h⟩ := osel_eq_some h
  cases h
  obtain ⟨L', Cs, hL', h3, h4, h5, h6⟩ := loadN_some hR h1
  rw [hL] at hL'; cases hL'
  obtain ⟨h7, h8⟩ := bytesOf_some h2 h3
  have hl : (loadCells ⟨L.r, L.d + off, none⟩ len).run P w = .ok ((s.map Int.ofNat).map (Value.int .u8)).toArray w := by
    have := run_loadCells_list (P := P) w ⟨L.r, L.d + off, none⟩ Cs (fun j v hv => by rw [Addr.add_mid]; exact h6 j v hv)
    rw [h4] at this
    rw [this, h7]
    simp
  refine ⟨_, fun cap => run_bytesToString w _ len cap _ hl, ?_⟩
  simp only [Rv]
  refine ⟨?_, h8⟩
  rw [foldl_push]
  congr 2
  show #[] ++ (s.map UInt8.ofNat).toArray = _
  simp

theorem conv_sound {src dst : TypeId} {k : ConvK} (hR : Rep P σ S w) {x v : AV} {X : Value} (hx : Rv P σ x X) (h : convV k x S.h = some v)
    (hk : match k with
      | .int k => (∃ j, P.underlying src = some (.int j)) ∧ P.underlying dst = some (.int k)
      | .same => P.underlying src = some .string ∧ P.underlying dst = some .string
      | .bytesToStr => ∃ e, P.underlying src = some (.slice e) ∧ P.underlying e = some (.int .u8) ∧ P.underlying dst = some .string
      | .intToStr => (∃ j, P.underlying src = some (.int j)) ∧ P.underlying dst = some .string) :
    ∃ V, (convert src dst X).run P w = .ok V w ∧ Rv P σ v V := by
  cases k <;> cases x <;> simp only [convV, reduceCtorEq] at h <;> simp only at hk
  · obtain ⟨⟨j, h1⟩, h2⟩ := hk
    simp only [Rv] at hx; subst hx; cases h
    refine ⟨_, ?_, by simp only [Rv, wrapF_eq]; rfl⟩
    simp [convert, run_underlying h1, run_underlying h2, Conv.intToInt]
  · obtain ⟨h1, h2⟩ := hk
    simp only [Rv] at hx; obtain ⟨rfl, hb⟩ := hx; cases h
    refine ⟨.string (mkStr _), ?_, by simp only [Rv]; exact ⟨rfl, hb⟩⟩
    simp [convert, run_underlying h1, run_underlying h2]
  · obtain ⟨e, h1, h2, h3⟩ := hk
    simp only [Rv] at hx
    obtain ⟨L, hL, rfl⟩ := hx
    obtain ⟨V, h4, h5⟩ := strOfCells_sound hR hL h
    exact ⟨V, by rw [run_convert_bytes_string w src dst e _ _ _ h1 h2 h3]; exact h4 _, h5⟩
  · obtain ⟨e, h1, h2, h3⟩ := hk
    simp only [Rv] at hx; subst hx; cases h
    refine ⟨.string .empty, by rw [run_convert_bytes_string w src dst e _ _ _ h1 h2 h3]; rfl, ?_⟩
    simp only [Rv]
    exact ⟨rfl, fun x hx => by cases hx⟩
  · obtain ⟨e, h1, h2, h3⟩ := hk
    simp only [Rv] at hx; obtain ⟨a, c, rfl⟩ := hx; cases h
    refine ⟨.string .empty, by rw [run_convert_bytes_string w src dst e _ _ _ h1 h2 h3, run_bytesToString w a 0 c [] rfl]; rfl, ?_⟩
    simp only [Rv]
    exact ⟨rfl, fun x hx => by cases hx⟩
  · obtain ⟨⟨j, h1⟩, h2⟩ := hk
    rename_i kk n
    cases n with
    | negSucc m => simp at h
    | ofNat m =>
      simp only at h
      obtain ⟨h3, h⟩ := bsel_some h
      cases h
      have h3 := Nat.le_of_ble_eq_true h3
      simp only [Rv] at hx; subst hx
      refine ⟨.string (mkStr [m]), ?_, by simp only [Rv]; exact ⟨trivial, fun x hx => by simp at hx; omega⟩⟩
      have hv : Utf8.valid (Int.ofNat m) = true := by
        simp [Utf8.valid]
        omega
      have h9 : (Int.ofNat m).toNat = m := rfl
      simp only [convert, Sem.run_bind, run_underlying h1, run_underlying h2, Result.andThen_ok, Conv.intToString, Sem.run_pure, Utf8.encode, hv, if_true, h9]
      rw [if_pos (by omega)]
      rfl

/-! ## slice expressions -/
theorem optNat_bound {F : Fr} {a : Act} (hF : FrR P σ F a.tmps) (hR : Rep P σ S w) {d y m : Nat} {xo : Option Operand} {X : Option Opd} (hx : cOpt P xo = some X) (h : optNat F d X = some m) (hm : xo.isSome = true → m ≤ y) (code : BoundsCode) :
    (match xo.map a.eval with
     | some v => Instr.sliceBound v y code
     | none => pure d).run P w = .ok m w := by
  cases xo with
  | none =>
    simp only [cOpt, Option.some.injEq] at hx
    subst hx
    simp only [optNat, Option.some.injEq] at h
    subst h
    rfl
  | some x =>
    simp only [cOpt, Option.map_eq_some_iff] at hx
    obtain ⟨X', hx, rfl⟩ := hx
    simp only [optNat] at h
    obtain ⟨k, hk⟩ := natOf_some h
    have := opd_sound hF hR hx
    rw [hk] at this
    simp only [Rv] at this
    simp only [Option.map_some, this]
    have hm := hm rfl
    have := run_sliceBound (P := P) w k (Int.ofNat m) y code (by simp) (by simpa using hm)
    simpa using this

theorem bounds_some {len cap : Nat} {lo hi mx : Option Opd} {F : Fr} {x : Nat × Nat × Nat} (h : bounds len cap lo hi mx F = some x) :
    optNat F cap mx = some x.2.2 ∧ optNat F len hi = some x.2.1 ∧ optNat F 0 lo = some x.1 ∧ x.2.2 ≤ cap ∧ x.2.1 ≤ x.2.2 ∧ x.1 ≤ x.2.1 := by
  unfold bounds at h
  obtain ⟨m, h1, h⟩ := osel_eq_some h
  obtain ⟨h', h2, h⟩ := osel_eq_some h
  obtain ⟨l, h3, h⟩ := osel_eq_some h
  obtain ⟨h4, h⟩ := bsel_some h
  obtain ⟨h5, h⟩ := bsel_some h
  obtain ⟨h6, h⟩ := bsel_some h
  cases h
  exact ⟨h1, h2, h3, Nat.le_of_ble_eq_true h4, Nat.le_of_ble_eq_true h5, Nat.le_of_ble_eq_true h6⟩

theorem cOpt_isSome {xo : Option Operand} {X : Option Opd} (h : cOpt P xo = some X) : X.isNone = xo.isNone := by
  cases xo with
  | none => simp only [cOpt, Option.some.injEq] at h; subst h; rfl
  | some x => simp only [cOpt, Option.map_eq_some_iff] at h; obtain ⟨_, _, rfl⟩ := h; rfl

/-- the bounds, where the capacity may be greater by e if no greatest bound is given -/
theorem bounds_sound {F : Fr} {a : Act} (hF : FrR P σ F a.tmps) (hR : Rep P σ S w) {isSlice : Bool} {len cap e : Nat} {lo hi mx : Option Operand} {Lo Hi Mx : Option Opd} (hlo : cOpt P lo = some Lo) (hhi : cOpt P hi = some Hi) (hmx : cOpt P mx = some Mx)
    (hhm : mx.isSome = true → hi.isSome = true) {x : Nat × Nat × Nat} (h : bounds len cap Lo Hi Mx F = some x) :
    (Instr.sliceBounds isSlice len (cap + e) (lo.map a.eval) (hi.map a.eval) (mx.map a.eval)).run P w = .ok (x.1, x.2.1, if mx.isNone = true then x.2.2 + e else x.2.2) w := by
  obtain ⟨h1, h2, h3, h4, h5, h6⟩ := bounds_some h
  have hM : ∀ code, (match mx.map a.eval with
      | some v => Instr.sliceBound v (cap + e) code
      | none => pure (cap + e)).run P w = .ok (if mx.isNone = true then x.2.2 + e else x.2.2) w := by
    intro code
    cases mx with
    | none =>
      simp only [cOpt, Option.some.injEq] at hmx
      subst hmx
      simp only [optNat, Option.some.injEq] at h1
      rw [← h1]
      rfl
    | some m =>
      have := optNat_bound (d := cap) (y := cap + e) hF hR hmx h1 (fun _ => by omega) code
      simpa using this
  have hH : ∀ code, (match hi.map a.eval with
      | some v => Instr.sliceBound v (if mx.isNone = true then x.2.2 + e else x.2.2) code
      | none => pure len).run P w = .ok x.2.1 w := fun code => optNat_bound hF hR hhi h2 (fun _ => by split <;> omega) code
  have hL : ∀ code, (match lo.map a.eval with
      | some v => Instr.sliceBound v x.2.1 code
      | none => pure 0).run P w = .ok x.1 w := fun code => optNat_bound hF hR hlo h3 (fun _ => h6) code
  unfold Instr.sliceBounds
  cases mx with
  | none =>
    have hM' := hM .slice3Alen
    simp only [Option.map_none] at hM' ⊢
    simp only [Option.isNone_none, if_true] at hM' hH ⊢
    cases hi with
    | none =>
      have hH' := hH .sliceB
      have hL' := hL .sliceB
      simp only [Option.map_none] at hH' ⊢
      simp only [Sem.run_bind, hM', hH', Result.andThen_ok, Option.isSome_none, if_false, Bool.false_eq_true]
      cases lo <;> simp_all
    | some hh =>
      have hH' := hH (if isSlice = true then .sliceAcap else .sliceAlen)
      have hL' := hL .sliceB
      simp only [Option.map_some] at hH' ⊢
      simp only [Sem.run_bind, hM', hH', Result.andThen_ok, Option.isSome_none, if_false, Bool.false_eq_true]
      cases lo <;> simp_all
  | some m =>
    cases hi with
    | none => simp at hhm
    | some hh =>
      have hM' := hM (if isSlice = true then .slice3Acap else .slice3Alen)
      have hH' := hH .slice3B
      have hL' := hL .slice3C
      simp only [Option.map_some] at hM' hH' ⊢
      simp only [Option.isNone_some, if_false, Bool.false_eq_true] at hM' hH' ⊢
      simp only [Sem.run_bind, hM', hH', Result.andThen_ok, Option.isSome_some, if_true]
      cases lo <;> simp_all
end Go.Ev
