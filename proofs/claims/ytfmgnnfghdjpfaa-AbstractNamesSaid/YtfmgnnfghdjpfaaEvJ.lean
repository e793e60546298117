import Derived.Test.YtfmgnnfghdjpfaaEvI
namespace Go.Ev
variable {P : Program} {σ : Env} {S : St} {w : World}

/-! ## Parts of values -/
theorem partOf_sound {t : TypeId} {agg : Bool} {n off : Nat} (ht : aggT P t = some (agg, n)) {cs : List AV} {C : List Value} (hC : Rvs P σ cs C) (h1 : ∀ u ∈ C, u.oneCell' = true) {v : AV}
    (h : partOf agg cs off n = some v) : ∃ V, (part t ⟨C⟩ off).run P w = .ok V w ∧ Rv P σ v V := by
  obtain ⟨d, i, hu, hi, hn, hd⟩ := aggT_some ht
  have hag : (isAgg t).run P w = .ok agg w := by
    simp only [isAgg, Sem.run_bind, run_underlying hu, Result.andThen_ok]
    cases d <;> simp_all [TypeDesc.isRow]
  unfold partOf at h
  cases agg with
  | true =>
    rw [bsel_true] at h
    obtain ⟨r, h2, h3⟩ := osel_eq_some h
    cases h3
    have hc := hC.cut h2
    refine ⟨.agg ⟨(C.drop off).take n⟩, ?_, by simp only [Rv]; exact ⟨_, rfl, hc.1, fun u hu => h1 u (List.mem_of_mem_drop (List.mem_of_mem_take hu))⟩⟩
    simp [part, hag, sizeOf, typeInfo, hi, hn, List.extract_eq_take_drop]
  | false =>
    rw [bsel_false, nth_eq] at h
    obtain ⟨V, h2, h3⟩ := hC.get h
    refine ⟨V, ?_, h3⟩
    simp [part, hag, h2]

theorem fld_sound {t : TypeId} {fs : Array Field} {k : Nat} {f : Field} {agg : Bool} {n : Nat} (ht : P.underlying t = some (.struct fs)) (hf : fs[k]? = some f) (ha : aggT P f.type = some (agg, n))
    {x v : AV} {X : Value} (hx : Rv P σ x X) (h : fldV x agg f.offset n = some v) : ∃ V, (Instr.field t X k).run P w = .ok V w ∧ Rv P σ v V := by
  cases x <;> simp only [fldV, reduceCtorEq] at h
  simp only [Rv] at hx
  obtain ⟨C, rfl, h2, h3⟩ := hx
  obtain ⟨V, h4, h5⟩ := partOf_sound (w := w) ha h2 h3 h
  exact ⟨V, by simp [Instr.field, run_underlying ht, hf, asAgg, h4], h5⟩

theorem faddr_sound {t : TypeId} {fs : Array Field} {k : Nat} {f : Field} {i : TypeInfo} (ht : P.underlying t = some (.struct fs)) (hf : fs[k]? = some f) (hi : P.info? f.type = some i) (h0 : i.size ≠ 0)
    {x v : AV} {X : Value} (hx : Rv P σ x X) (h : faddrV x f.offset = some v) : ∃ V, (Instr.fieldAt t X k).run P w = .ok V w ∧ Rv P σ v V := by
  cases x <;> simp only [faddrV, reduceCtorEq] at h
  cases h
  simp only [Rv] at hx
  obtain ⟨L, hL, rfl⟩ := hx
  refine ⟨.pointer (some ⟨L.r, L.d + _ + f.offset, none⟩), ?_, by simp only [Rv]; exact ⟨L, hL, by rw [Nat.add_assoc]⟩⟩
  simp [Instr.fieldAt, run_underlying ht, hf, Instr.sureAddr, fieldPlace, sizeOf, typeInfo, hi, h0, Addr.add_lit]

theorem natOf_some {v : AV} {n : Nat} (h : natOf v = some n) : ∃ k, v = .int k (.ofNat n) := by
  unfold natOf at h
  split at h
  · cases h; exact ⟨_, rfl⟩
  · cases h

theorem blt_lt {a b : Nat} (h : Nat.blt a b = true) : a < b := Nat.le_of_ble_eq_true h

theorem iaddr_sound_arr {t e : TypeId} {n : Nat} {i : TypeInfo} (ht : P.underlying t = some (.array n e)) (hi : P.info? e = some i) {x v : AV} {X I : Value} {j : Nat} {k : IntKind} (hx : Rv P σ x X) (hI : I = .int k (.ofNat j))
    (h : iaddrV (.arr n i.size) x j = some v) : ∃ V, (Instr.indexAt t X I).run P w = .ok V w ∧ Rv P σ v V := by
  subst hI
  cases x <;> simp only [iaddrV, reduceCtorEq] at h
  obtain ⟨h1, h⟩ := bsel_some h
  cases h
  have h1 := blt_lt h1
  simp only [Rv] at hx
  obtain ⟨L, hL, rfl⟩ := hx
  refine ⟨.pointer (some ⟨L.r, L.d + _ + j * i.size, none⟩), ?_, by simp only [Rv]; exact ⟨L, hL, by rw [Nat.add_assoc]⟩⟩
  have hb : (0 : Int) ≤ Int.ofNat j ∧ Int.ofNat j < (n : Int) := ⟨by simp, by simpa using h1⟩
  simp [Instr.indexAt, asIntOf, run_underlying ht, Instr.sureAddr, sizeOf, typeInfo, hi, Addr.add_lit, h1]

theorem iaddr_sound_sl {t e : TypeId} {i : TypeInfo} (ht : P.underlying t = some (.slice e)) (hi : P.info? e = some i) {x v : AV} {X I : Value} {j : Nat} {k : IntKind} (hx : Rv P σ x X) (hI : I = .int k (.ofNat j))
    (h : iaddrV (.slice i.size) x j = some v) : ∃ V, (Instr.indexAt t X I).run P w = .ok V w ∧ Rv P σ v V := by
  subst hI
  cases x <;> simp only [iaddrV, reduceCtorEq] at h
  obtain ⟨h1, h⟩ := bsel_some h
  cases h
  have h1 := blt_lt h1
  simp only [Rv] at hx
  obtain ⟨L, hL, rfl⟩ := hx
  refine ⟨.pointer (some ⟨L.r, L.d + _ + j * i.size, none⟩), ?_, by simp only [Rv]; exact ⟨L, hL, by rw [Nat.add_assoc]⟩⟩
  simp [Instr.indexAt, asIntOf, run_underlying ht, sizeOf, typeInfo, hi, Addr.add_lit, h1]

theorem idxArr_sound {t e : TypeId} {n : Nat} {agg : Bool} {s : Nat} (ht : P.underlying t = some (.array n e)) (ha : aggT P e = some (agg, s)) {x v : AV} {X I : Value} {j : Nat} {k : IntKind} (hx : Rv P σ x X) (hI : I = .int k (.ofNat j))
    (h : idxArrV x agg n s j = some v) : ∃ V, (Instr.index t X I).run P w = .ok V w ∧ Rv P σ v V := by
  subst hI
  cases x <;> simp only [idxArrV, reduceCtorEq] at h
  obtain ⟨h1, h⟩ := bsel_some h
  have h1 := blt_lt h1
  simp only [Rv] at hx
  obtain ⟨C, rfl, h2, h3⟩ := hx
  obtain ⟨d, i, hu, hi, hn, hd⟩ := aggT_some ha
  obtain ⟨V, h4, h5⟩ := partOf_sound (w := w) ha h2 h3 h
  exact ⟨V, by simp [Instr.index, asIntOf, run_underlying ht, sizeOf, typeInfo, hi, hn, h1, h4], h5⟩

theorem idxStr_sound {t : TypeId} (ht : P.underlying t = some .string) {x v : AV} {X I : Value} {j : Nat} {k : IntKind} (hx : Rv P σ x X) (hI : I = .int k (.ofNat j))
    (h : idxStrV x j = some v) : ∃ V, (Instr.index t X I).run P w = .ok V w ∧ Rv P σ v V := by
  subst hI
  cases x <;> simp only [idxStrV, reduceCtorEq] at h
  rename_i s
  obtain ⟨b, h1, h2⟩ := osel_eq_some h
  cases h2
  rw [nth_eq] at h1
  simp only [Rv] at hx
  obtain ⟨rfl, hb⟩ := hx
  have hj : j < s.length := by
    rcases Nat.lt_or_ge j s.length with h3 | h3
    · exact h3
    · rw [List.getElem?_eq_none h3] at h1; cases h1
  have hsz : j < (mkStr s).size := by rw [mkStr_size]; exact hj
  have hg : (mkStr s)[j]? = some (UInt8.ofNat b) := by
    rw [getElem?_pos (mkStr s) j hsz]
    congr 1
    show (mkStr s).data[j] = _
    simp only [mkStr, List.getElem_toArray, List.getElem_map]
    rw [List.getElem?_eq_getElem hj] at h1
    cases h1
    rfl
  have hbb : b < 256 := hb b (List.mem_of_getElem? h1)
  refine ⟨.int .u8 (.ofNat b), ?_, by simp only [Rv]⟩
  have h0 : (0 : Int) ≤ Int.ofNat j := by simp
  have h9 : (Int.ofNat j).toNat = j := rfl
  simp only [Instr.index, asIntOf, Sem.run_bind, Sem.run_pure, Result.andThen_ok, run_underlying ht, if_pos h0, h9, hg]
  show Result.ok (Value.int .u8 ((UInt8.ofNat b).toNat : Int)) w = _
  rw [byteNat hbb]
  rfl

theorem extract_sound {x v : AV} {X : Value} {i : Nat} (hx : Rv P σ x X) (h : extractV x i = some v) : ∃ V, (Instr.extract X i).run P w = .ok V w ∧ Rv P σ v V := by
  cases x <;> simp only [extractV, reduceCtorEq] at h
  rw [nth_eq] at h
  simp only [Rv] at hx
  obtain ⟨C, rfl, h2⟩ := hx
  obtain ⟨V, h3, h4⟩ := h2.get h
  exact ⟨V, by simp [Instr.extract, h3], h4⟩

theorem pick_sound {c : AV} {C : Value} {a b : Opd} {F : Fr} {v : AV} {A B : Value} (hc : Rv P σ c C) (ha : Rv P σ (a.val F) A) (hb : Rv P σ (b.val F) B) (h : qPickB c a b F = some v) :
    ∃ V, (do pure (Next.value (if ← asBool C then A else B)) : Sem Next).run P w = .ok (.value V) w ∧ Rv P σ v V := by
  cases c <;> simp only [qPickB, reduceCtorEq] at h
  cases h
  simp only [Rv] at hc
  subst hc
  rename_i t
  cases t
  · exact ⟨B, by simp [asBool], hb⟩
  · exact ⟨A, by simp [asBool], ha⟩

/-! ### a composite value -/
theorem foldl_zipIdx_mid : ∀ (l pre old post : List Value) (off i : Nat), pre.length = off + i → old.length = l.length →
    (l.zipIdx i).foldl (fun (a : Array Value) (p : Value × Nat) => a.setIfInBounds (off + p.2) p.1) ⟨pre ++ old ++ post⟩ = ⟨pre ++ l ++ post⟩
  | [], pre, old, post, off, i, _, h => by
    have : old = [] := List.eq_nil_of_length_eq_zero h
    subst this
    rfl
  | x :: l, pre, [], post, off, i, _, h => by simp at h
  | x :: l, pre, o :: old, post, off, i, hp, h => by
    rw [List.zipIdx_cons, List.foldl_cons]
    have : (Array.mk (pre ++ o :: old ++ post)).setIfInBounds (off + i) x = ⟨(pre ++ [x]) ++ old ++ post⟩ := by
      apply Array.ext'
      rw [Array.toList_setIfInBounds, ← hp]
      simp
    rw [this, foldl_zipIdx_mid l (pre ++ [x]) old post off (i + 1) (by simp; omega) (by simpa using h)]
    simp
theorem foldl_zipIdx_set (cs : List Value) (l : List Value) (off : Nat) (h : off + l.length ≤ cs.length) :
    (l.zipIdx).foldl (fun (a : Array Value) (p : Value × Nat) => a.setIfInBounds (off + p.2) p.1) ⟨cs⟩ = ⟨cs.take off ++ l ++ cs.drop (off + l.length)⟩ := by
  have := foldl_zipIdx_mid l (cs.take off) ((cs.drop off).take l.length) (cs.drop (off + l.length)) off 0 (by simp; omega) (by simp; omega)
  rw [← this]
  congr 2
  rw [List.append_assoc, ← List.drop_drop, List.take_append_drop, List.take_append_drop]

theorem fill_sound {place : Nat → Option (Nat × Nat)} : ∀ {ps : List (Nat × Value)} {qs : List (Nat × Nat × AV)} {z r : List AV} {Z : List Value},
    ps.length = qs.length → (∀ (j i : Nat) (V : Value) (off n : Nat) (v : AV), ps[j]? = some (i, V) → qs[j]? = some (off, n, v) → place i = some (off, n) ∧ Rv P σ v V) →
    Rvs P σ z Z → (∀ u ∈ Z, u.oneCell' = true) → fillP z qs = some r → ∃ R, Instr.fill place ⟨Z⟩ ps = some ⟨R⟩ ∧ Rvs P σ r R ∧ (∀ u ∈ R, u.oneCell' = true)
  | [], [], z, r, Z, _, _, hz, h1, h => by
    simp only [fillP, Option.some.injEq] at h
    subst h
    exact ⟨Z, rfl, hz, h1⟩
  | [], _ :: _, _, _, _, hl, _, _, _, _ => by simp at hl
  | _ :: _, [], _, _, _, hl, _, _, _, _ => by simp at hl
  | (i, V) :: ps, (off, n, v) :: qs, z, r, Z, hl, hp, hz, h1, h => by
    simp only [fillP] at h
    obtain ⟨cs, hcs, h⟩ := osel_eq_some h
    obtain ⟨hn, h⟩ := bsel_some h
    obtain ⟨z', hput, h⟩ := osel_eq_some h
    rw [lenL_eq, Nat.beq_eq] at hn
    have h0 := hp 0 i V off n v rfl rfl
    obtain ⟨hc1, hc2⟩ := Rv_cells h0.2 hcs
    have hle := (put_some hput).1
    have hVl : V.cells.toList.length = n := by rw [hc1.length, hn]
    have hZl := hz.length
    have hz' := hz.put hc1 hput
    have hflat : ∀ u ∈ Z.take off ++ V.cells.toList ++ Z.drop (off + V.cells.toList.length), u.oneCell' = true := fun u hu => by
      simp only [List.mem_append] at hu
      rcases hu with (hu | hu) | hu
      · exact h1 u (List.mem_of_mem_take hu)
      · exact hc2 u hu
      · exact h1 u (List.mem_of_mem_drop hu)
    obtain ⟨R, hR1, hR2, hR3⟩ := fill_sound (place := place) (ps := ps) (qs := qs) (by simpa using hl) (fun j i V off n v h1 h2 => hp (j + 1) i V off n v h1 h2) hz' hflat h
    refine ⟨R, ?_, hR2, hR3⟩
    simp only [Instr.fill, h0.1]
    have hVs : V.cells.size = n := by rw [← hVl]; simp
    rw [if_neg (by simp [hVs]; omega)]
    have hf := foldl_zipIdx_set Z V.cells.toList off (by rw [hVl]; omega)
    have he : V.cells.zipIdx.foldl (fun (cs : Array Value) (x : Value × Nat) => cs.setIfInBounds (off + x.2) x.1) ⟨Z⟩ = ⟨Z.take off ++ V.cells.toList ++ Z.drop (off + V.cells.toList.length)⟩ := by
      rw [← hf, ← Array.foldl_toList, Array.toList_zipIdx]
    rw [← hR1]
    congr 1
end Go.Ev
