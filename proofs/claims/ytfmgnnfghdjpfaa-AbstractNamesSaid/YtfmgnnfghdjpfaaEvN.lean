import Derived.Test.YtfmgnnfghdjpfaaEvJ
namespace Go.Ev
variable {P : Program} {σ : Env} {S : St} {w : World}

/-! ## build -/
theorem cParts_get {place : Nat → Option (Nat × Nat)} {F : Fr} {a : Act} (hF : FrR P σ F a.tmps) (hR : Rep P σ S w) : ∀ {ps : List (Nat × Operand)} {qs : List (Nat × Nat × Opd)}, cParts P place ps = some qs →
    (ps.map fun p => (p.1, a.eval p.2)).length = (partsV F qs).length ∧
    ∀ (j i : Nat) (V : Value) (off n : Nat) (v : AV), (ps.map fun p => (p.1, a.eval p.2))[j]? = some (i, V) → (partsV F qs)[j]? = some (off, n, v) → place i = some (off, n) ∧ Rv P σ v V
  | [], qs, h => by
    simp only [cParts, Option.some.injEq] at h
    subst h
    exact ⟨rfl, fun j i V off n v h1 => by simp at h1⟩
  | (i, x) :: ps, qs, h => by
    simp only [cParts] at h
    split at h
    · rename_i off n X qs' hp hx hqs
      cases h
      obtain ⟨h1, h2⟩ := cParts_get hF hR hqs
      refine ⟨by simp [partsV] at h1 ⊢; exact h1, fun j i' V off' n' v hj1 hj2 => ?_⟩
      cases j with
      | zero =>
        simp only [List.map_cons, List.getElem?_cons_zero, partsV, Option.some.injEq, Prod.mk.injEq] at hj1 hj2
        obtain ⟨rfl, rfl⟩ := hj1
        obtain ⟨rfl, rfl, rfl⟩ := hj2
        exact ⟨hp, opd_sound hF hR hx⟩
      | succ j =>
        simp only [List.map_cons, List.getElem?_cons_succ, partsV] at hj1 hj2
        exact h2 j i' V off' n' v hj1 hj2
    · cases h

theorem zeroT_some {t : TypeId} {z : AV} (h : zeroT P t = some z) : ∃ i Z, P.info? t = some i ∧ i.zero = some Z ∧ Rv P σ z Z := by
  unfold zeroT at h
  split at h
  · rename_i i hi
    split at h
    · rename_i Z hz
      exact ⟨i, Z, hi, hz, Rv_ofValue h⟩
    · cases h
  · cases h
theorem zeroCellsT_some {t : TypeId} {z : List AV} (h : zeroCellsT P t = some z) : ∃ i Z, P.info? t = some i ∧ i.zero = some Z ∧ Rvs P σ z Z.cells.toList ∧ ∀ u ∈ Z.cells.toList, u.oneCell' = true := by
  unfold zeroCellsT at h
  rw [Option.bind_eq_some_iff] at h
  obtain ⟨v, h1, h2⟩ := h
  obtain ⟨i, Z, h3, h4, h5⟩ := zeroT_some (σ := σ) h1
  exact ⟨i, Z, h3, h4, Rv_cells h5 h2⟩

theorem run_zero {t : TypeId} {i : TypeInfo} {Z : Value} (hi : P.info? t = some i) (hz : i.zero = some Z) : (zeroValue t).run P w = .ok Z w := by
  simp [zeroValue, typeInfo, hi, hz]

theorem mapM_run {α β : Type} {g : α → Sem β} (w : World) : ∀ (l : List α) (r : List β), (∀ (j : Nat) (f : α) (p : β), l[j]? = some f → r[j]? = some p → (g f).run P w = .ok p w) → l.length = r.length →
    (l.mapM g).run P w = .ok r w
  | [], [], _, _ => rfl
  | [], _ :: _, _, h => by simp at h
  | _ :: _, [], _, h => by simp at h
  | f :: l, p :: r, h, hl => by
    have h0 := h 0 f p rfl rfl
    have ih := mapM_run w l r (fun j f p h1 h2 => h (j + 1) f p h1 h2) (by simpa using hl)
    rw [List.mapM_cons]
    simp only [Sem.run_bind, h0, ih, Result.andThen_ok, Sem.run_pure]

theorem places_of_known : ∀ (fs : List Field), fieldsKnown P fs = true → ∃ r : List (Nat × Nat), r.length = fs.length ∧ ∀ (j : Nat) (f : Field) (p : Nat × Nat), fs[j]? = some f → r[j]? = some p → ∃ i, P.info? f.type = some i ∧ p = (f.offset, i.size)
  | [], _ => ⟨[], rfl, fun j f p h => by simp at h⟩
  | f :: fs, h => by
    simp only [fieldsKnown, Bool.and_eq_true] at h
    obtain ⟨r, h1, h2⟩ := places_of_known fs h.2
    obtain ⟨i, hi⟩ := Option.isSome_iff_exists.1 h.1
    refine ⟨(f.offset, i.size) :: r, by simp [h1], fun j g p hj1 hj2 => ?_⟩
    cases j with
    | zero => simp at hj1 hj2; subst hj1; subst hj2; exact ⟨i, hi, rfl⟩
    | succ j => exact h2 j g p (by simpa using hj1) (by simpa using hj2)

theorem build_struct_sound {t : TypeId} {fs : Array Field} {z : List AV} {ps : Array (Nat × Operand)} {qs : List (Nat × Nat × Opd)} {F : Fr} {a : Act} (hF : FrR P σ F a.tmps) (hR : Rep P σ S w)
    (ht : P.underlying t = some (.struct fs)) (hk : fieldsKnown P fs.toList = true) (hz : zeroCellsT P t = some z)
    (hq : cParts P (placeOf P fs) ps.toList = some qs) {cs : List AV} (h : fillP z (partsV F qs) = some cs) :
    ∃ V, (Instr.build t (ps.map fun (i, x) => (i, a.eval x))).run P w = .ok V w ∧ Rv P σ (.agg cs) V := by
  obtain ⟨i, Z, hi, hZ, hz1, hz2⟩ := zeroCellsT_some (σ := σ) hz
  obtain ⟨r, hr1, hr2⟩ := places_of_known _ hk
  obtain ⟨hl, hp⟩ := cParts_get hF hR hq
  have hplace : ∀ i, placeOf P fs i = r[i]? := by
    intro i
    unfold placeOf
    rw [← Array.getElem?_toList]
    cases hfi : fs.toList[i]? with
    | none =>
      have : fs.toList.length ≤ i := List.getElem?_eq_none_iff.1 hfi
      rw [List.getElem?_eq_none (by omega)]
    | some f =>
      have hlt : i < r.length := by rw [hr1]; exact (List.getElem?_eq_some_iff.1 hfi).1
      obtain ⟨i', h1, h2⟩ := hr2 i f r[i] hfi (List.getElem?_eq_getElem hlt)
      rw [List.getElem?_eq_getElem hlt, h2]
      simp [h1]
  have hfun := funext hplace
  rw [hfun] at hp
  obtain ⟨R, h1, h2, h3⟩ := fill_sound (place := fun i => r[i]?) hl hp hz1 hz2 h
  refine ⟨.agg ⟨R⟩, ?_, by simp only [Rv]; exact ⟨R, rfl, h2, h3⟩⟩
  have hm := mapM_run (P := P) (g := fun f : Field => (do pure (f.offset, ← sizeOf f.type) : Sem (Nat × Nat))) w fs.toList r (fun j f p h1 h2 => by
    obtain ⟨i', h3, rfl⟩ := hr2 j f p h1 h2
    simp [sizeOf, typeInfo, h3]) hr1.symm
  have hm' : (fs.mapM fun f => (do pure (f.offset, ← sizeOf f.type) : Sem (Nat × Nat))).run P w = .ok r.toArray w := by
    rw [Array.mapM_eq_mapM_toList]
    simp only [Sem.run_map, hm, Result.andThen_ok]
  have hpl : (ps.map fun (i, x) => (i, a.eval x)).toList = ps.toList.map fun p => (p.1, a.eval p.2) := by simp
  simp only [Instr.build, Sem.run_bind, run_zero hi hZ, Result.andThen_ok, run_underlying ht, hm', hpl]
  have hfill : Instr.fill (fun x => (r.toArray)[x]?) Z.cells (ps.toList.map fun p => (p.1, a.eval p.2)) = some ⟨R⟩ := by
    rw [← h1]
    congr 1
    funext x
    simp
  rw [hfill]
  rfl

theorem build_array_sound {t e : TypeId} {n : Nat} {i : TypeInfo} {z : List AV} {ps : Array (Nat × Operand)} {qs : List (Nat × Nat × Opd)} {F : Fr} {a : Act} (hF : FrR P σ F a.tmps) (hR : Rep P σ S w)
    (ht : P.underlying t = some (.array n e)) (hie : P.info? e = some i) (hz : zeroCellsT P t = some z)
    (hq : cParts P (fun j => some (j * i.size, i.size)) ps.toList = some qs) {cs : List AV} (h : fillP z (partsV F qs) = some cs) :
    ∃ V, (Instr.build t (ps.map fun (i, x) => (i, a.eval x))).run P w = .ok V w ∧ Rv P σ (.agg cs) V := by
  obtain ⟨i', Z, hi, hZ, hz1, hz2⟩ := zeroCellsT_some (σ := σ) hz
  obtain ⟨hl, hp⟩ := cParts_get hF hR hq
  obtain ⟨R, h1, h2, h3⟩ := fill_sound hl hp hz1 hz2 h
  refine ⟨.agg ⟨R⟩, ?_, by simp only [Rv]; exact ⟨R, rfl, h2, h3⟩⟩
  have hpl : (ps.map fun (i, x) => (i, a.eval x)).toList = ps.toList.map fun p => (p.1, a.eval p.2) := by simp
  have h1' : Instr.fill (fun j => some (j * i.size, i.size)) Z.cells (ps.toList.map fun p => (p.1, a.eval p.2)) = some ⟨R⟩ := h1
  simp only [Instr.build, Sem.run_bind, run_zero hi hZ, Result.andThen_ok, run_underlying ht, sizeOf, typeInfo, run_program, hie, Sem.run_pure, hpl, h1']

/-! ## conversions -/
theorem bytesOf_some : ∀ {cs : List AV} {s : List Nat} {C : List Value}, bytesOf cs = some s → Rvs P σ cs C → C = s.map (fun b => Value.int .u8 (Int.ofNat b)) ∧ Bytes s
  | [], s, C, h, hC => by
    simp only [bytesOf, Option.some.injEq] at h
    subst h
    rw [Rvs_nil] at hC
    exact ⟨hC, fun x hx => by cases hx⟩
  | c :: cs, s, C, h, hC => by
    rw [Rvs_cons] at hC
    obtain ⟨V, Ws, rfl, hV, hW⟩ := hC
    unfold bytesOf at h
    split at h
    · rename_i e; cases e
    · rename_i n vs e
      cases e
      obtain ⟨h1, h⟩ := bsel_some h
      obtain ⟨r, h2, h⟩ := osel_eq_some h
      cases h
      simp only [Rv] at hV
      obtain ⟨h3, h4⟩ := bytesOf_some h2 hW
      subst hV
      have := Nat.le_of_ble_eq_true h1
      exact ⟨by simp [h3], fun x hx => by rcases List.mem_cons.1 hx with rfl | hx; omega; exact h4 x hx⟩
    · cases h

end Go.Ev
