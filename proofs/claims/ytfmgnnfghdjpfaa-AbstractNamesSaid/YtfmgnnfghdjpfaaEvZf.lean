import Derived.Test.YtfmgnnfghdjpfaaEvZe
import Derived.ChangeKeysEq
namespace Go.Ev
variable {P : Program} {σ : Env} {S : St} {w : World}

/-! ## Structs and arrays: equality, keys -/
theorem eqp_plain {t : TypeId} {x y : AV} {b : Bool} (h : eqp (eqP P t) x y = some b) : (isAgg t).run P w = .ok false w := by
  rcases eqP_spec (P := P) t with ⟨d, hu, hd⟩ | hno
  · simp only [isAgg, Sem.run_bind, run_underlying hu, Result.andThen_ok]
    cases d <;> first | rfl | (exfalso; unfold eqP at h; rw [hu] at h; simp [eqp] at h)
  · rw [hno] at h; simp [eqp] at h

theorem part_cell {t : TypeId} {Xs : List Value} {off : Nat} {V : Value} (ha : (isAgg t).run P w = .ok false w) (hv : Xs[off]? = some V) : (part t ⟨Xs⟩ off).run P w = .ok V w := by
  have hv' : (⟨Xs⟩ : Array Value)[off]? = some V := by simpa using hv
  simp [part, ha, hv']

theorem eqs_cons {off : Nat} {e : EqP} {fs : List (Nat × EqP)} {xs ys : List AV} {b : Bool} (h : eqs ((off, e) :: fs) xs ys = some b) :
    ∃ x y r, xs[off]? = some x ∧ ys[off]? = some y ∧ eqp e x y = some r ∧ ((r = true ∧ eqs fs xs ys = some b) ∨ (r = false ∧ b = false)) := by
  simp only [eqs] at h
  split at h
  · rename_i x y hx hy
    rw [nth_eq] at hx hy
    split at h
    · exact ⟨x, y, true, hx, hy, ‹_›, .inl ⟨rfl, h⟩⟩
    · cases h; exact ⟨x, y, false, hx, hy, ‹_›, .inr ⟨rfl, rfl⟩⟩
    · cases h
  · cases h

theorem fields_sound {xs ys : List AV} {Xs Ys : List Value} (hX : Rvs P σ xs Xs) (hY : Rvs P σ ys Ys) (n : Nat) : ∀ (fs : List Field) (b : Bool), eqs (eqFields P fs) xs ys = some b →
    (Op.eqFields (n + 1) ⟨Xs⟩ ⟨Ys⟩ fs).run P w = .ok b w
  | [], b, h => by simp only [eqFields, eqs, Option.some.injEq] at h; subst h; simp [Op.eqFields]
  | f :: fs, b, h => by
    simp only [eqFields, Bool.cond_eq_ite] at h
    by_cases hn : f.name = "_"
    · rw [if_pos (by simpa using hn)] at h
      simp only [Op.eqFields, hn, ne_eq, not_true_eq_false, if_false]
      exact fields_sound hX hY n fs b h
    · rw [if_neg (by simpa using hn)] at h
      obtain ⟨x, y, r, hx, hy, hr, hc⟩ := eqs_cons h
      obtain ⟨V, hV, hv⟩ := hX.get hx
      obtain ⟨W, hW, hw⟩ := hY.get hy
      have ha := eqp_plain (w := w) hr
      have hq := eqp_sound (w := w) hv hw hr n
      simp only [Op.eqFields, hn, ne_eq, not_false_eq_true, if_true, Sem.run_bind, part_cell ha hV, part_cell ha hW, hq, Result.andThen_ok]
      rcases hc with ⟨rfl, hc⟩ | ⟨rfl, rfl⟩
      · simpa using fields_sound hX hY n fs b hc
      · simp

theorem items_sound {e : TypeId} {xs ys : List AV} {Xs Ys : List Value} (hX : Rvs P σ xs Xs) (hY : Rvs P σ ys Ys) (n : Nat) : ∀ (is : List Nat) (b : Bool), eqs (is.map fun i => (i, eqP P e)) xs ys = some b →
    (Op.eqItems (n + 1) e 1 ⟨Xs⟩ ⟨Ys⟩ is).run P w = .ok b w
  | [], b, h => by simp only [List.map_nil, eqs, Option.some.injEq] at h; subst h; simp [Op.eqItems]
  | i :: is, b, h => by
    rw [List.map_cons] at h
    obtain ⟨x, y, r, hx, hy, hr, hc⟩ := eqs_cons h
    obtain ⟨V, hV, hv⟩ := hX.get hx
    obtain ⟨W, hW, hw⟩ := hY.get hy
    have ha := eqp_plain (w := w) hr
    have hq := eqp_sound (w := w) hv hw hr n
    simp only [Op.eqItems, Nat.mul_one, Sem.run_bind, part_cell ha hV, part_cell ha hW, hq, Result.andThen_ok]
    rcases hc with ⟨rfl, hc⟩ | ⟨rfl, rfl⟩
    · simpa using items_sound hX hY n is b hc
    · simp

theorem info_of_cells {e : TypeId} (h : P.cellsOf e = 1) : ∃ i, P.info? e = some i := by
  unfold Program.cellsOf at h
  cases hi : P.info? e with
  | none => simp [hi] at h
  | some i => exact ⟨i, rfl⟩

theorem eq_sound (P : Program) : EqSound P := by
  intro σ w t fs xs ys X Y b he hx hy h
  simp only [Rv] at hx hy
  obtain ⟨Xs, rfl, hX, _⟩ := hx
  obtain ⟨Ys, rfl, hY, _⟩ := hy
  unfold eqT at he
  split at he
  · rename_i Fs hu
    rw [Bool.cond_eq_ite] at he
    split at he
    · cases he
    · rename_i hc
      cases he
      simp only [Bool.or_eq_true, not_or, Bool.not_eq_true] at hc
      refine ⟨fun op xo yo => run_eqGuard_agg w op t xo yo _ _ hc.2, fun n => ?_⟩
      have hfo : P.fieldsOf t = Fs := by simp [Program.fieldsOf, hu]
      rw [run_equalIn_struct w (n + 1) t _ _ (by rw [hfo]; exact hu) hc.1, hfo]
      exact fields_sound hX hY n _ b h
  · rename_i m e hu
    rw [Bool.cond_eq_ite] at he
    split at he
    · cases he
    · rename_i hc
      cases he
      simp only [Bool.or_eq_true, not_or, Bool.not_eq_true, bne_eq_false_iff_eq] at hc
      refine ⟨fun op xo yo => run_eqGuard_agg w op t xo yo _ _ hc.1.1, fun n => ?_⟩
      obtain ⟨i, hi⟩ := info_of_cells hc.2
      rw [run_equalIn_array w (n + 1) _ _ hu hi, hc.2]
      exact items_sound hX hY n _ b h
  · cases he

theorem plain_spec {t : TypeId} (h : plainKey (eqP P t) = true) : ∃ d, P.underlying t = some d ∧ (d = .bool ∨ (∃ k, d = .int k) ∨ d = .string) := by
  unfold eqP at h
  split at h <;> first | (simp [plainKey] at h; done) | skip
  · exact ⟨_, ‹_›, .inl rfl⟩
  · exact ⟨_, ‹_›, .inr (.inl ⟨_, rfl⟩)⟩
  · exact ⟨_, ‹_›, .inr (.inr rfl)⟩

theorem checkKey_cell {t : TypeId} (h : plainKey (eqP P t) = true) (V : Value) (em : Bool) (n : Nat) : (Instr.checkKey em (n + 1) t V).run P w = .ok () w := by
  obtain ⟨d, hu, hd⟩ := plain_spec h
  rcases hd with rfl | ⟨k, rfl⟩ | rfl <;> simp [Instr.checkKey, run_underlying hu]
theorem isAgg_cell {t : TypeId} (h : plainKey (eqP P t) = true) : (isAgg t).run P w = .ok false w := by
  obtain ⟨d, hu, hd⟩ := plain_spec h
  rcases hd with rfl | ⟨k, rfl⟩ | rfl <;> simp [isAgg, run_underlying hu]

theorem covers_get : ∀ {l : List (Nat × EqP)} {i j : Nat} {p : Nat × EqP}, covers i l = true → l[j]? = some p → p.1 = i + j ∧ plainKey p.2 = true
  | [], i, j, p, _, h => by simp at h
  | (o, e) :: l, i, j, p, hc, h => by
    simp only [covers, Bool.and_eq_true, Nat.beq_eq] at hc
    cases j with
    | zero => simp at h; subst h; exact ⟨by simp [hc.1], hc.2.1⟩
    | succ j =>
      simp at h
      obtain ⟨h1, h2⟩ := covers_get hc.2.2 h
      exact ⟨by omega, h2⟩

theorem eqFields_mem : ∀ {fs : List Field} {f : Field}, f ∈ fs → f.name ≠ "_" → (f.offset, eqP P f.type) ∈ eqFields P fs
  | g :: fs, f, h, hn => by
    simp only [eqFields, Bool.cond_eq_ite]
    rcases List.mem_cons.1 h with rfl | h
    · rw [if_neg (by simpa using hn)]; simp
    · split
      · exact eqFields_mem h hn
      · exact List.mem_cons_of_mem _ (eqFields_mem h hn)

theorem key_sound (P : Program) : KeySound P := by
  intro σ w kt e k K em hkt hk hs
  rcases keyT_cases hkt with ⟨hu, rfl⟩ | ⟨⟨j, hu⟩, rfl⟩ | ⟨rfl, hu⟩
  · exact checkKey_plain (.inl hu) K em
  · exact checkKey_plain (.inr ⟨j, hu⟩) K em
  · cases hq : eqT P kt with
    | p q =>
      exfalso
      unfold keyT at hkt
      rcases hu with ⟨fs, hu, _⟩ | ⟨n, el, hu, _⟩ <;> rw [hu] at hkt <;> simp only [hq] at hkt <;> cases hkt
    | struct l =>
      rw [hq] at hs hkt
      have hcov := keyT_covers hkt
      cases k <;> simp only [eqv, Option.isSome_none, Bool.false_eq_true] at hs
      rename_i xs
      rw [bsel_eq] at hs
      split at hs
      · rename_i hlen
        rw [Nat.beq_eq, lenL_eq, lenL_eq] at hlen
        simp only [Rv] at hk
        obtain ⟨Xs, rfl, hX, _⟩ := hk
        show (Instr.checkKey em (9998 + 1 + 1) kt _).run P w = .ok () w
        generalize 9998 = m
        rcases hu with ⟨fs, hu, hall⟩ | ⟨n, el, hu, hpl⟩
        · rw [Instr.checkKey]
          simp only [Sem.run_bind, run_underlying hu, Result.andThen_ok]
          have hl : l = eqFields P fs.toList := by
            unfold eqT at hq
            rw [hu] at hq
            simp only [Bool.cond_eq_ite] at hq
            split at hq
            · cases hq
            · cases hq; rfl
          rw [← Array.forIn_toList]
          have deep : ∀ f ∈ fs.toList, f.name ≠ "_" → plainKey (eqP P f.type) = true ∧ ∃ V, Xs[f.offset]? = some V := fun f hf hn => by
            refine ⟨Array.all_eq_true_iff_forall_mem.1 hall f (Array.mem_toList_iff.1 hf), ?_⟩
            obtain ⟨j, hj, e⟩ := List.getElem_of_mem (eqFields_mem (P := P) hf hn)
            rw [← hl] at hj
            have := covers_get (j := j) hcov (p := (f.offset, eqP P f.type)) (by rw [List.getElem?_eq_getElem hj]; subst hl; rw [e])
            have hlt : f.offset < Xs.length := by rw [hX.length, hlen]; simp only at this; omega
            exact ⟨_, List.getElem?_eq_getElem hlt⟩
          clear hall hl
          generalize fs.toList = L at deep
          induction L with
          | nil => simp
          | cons f L ih =>
            by_cases hn : f.name = "_"
            · simp only [List.forIn_cons, Sem.run_bind, hn, ne_eq, not_true_eq_false, if_false, Sem.run_pure, Result.andThen_ok]
              exact ih (fun y hy => deep y (by simp [hy]))
            · obtain ⟨hp, V, hV⟩ := deep f (by simp) hn
              simp only [List.forIn_cons, Sem.run_bind, hn, ne_eq, not_false_eq_true, if_true, Result.andThen_ok, part_cell (isAgg_cell hp) hV, checkKey_cell hp, Sem.run_pure]
              exact ih (fun y hy => deep y (by simp [hy]))
        · rw [Instr.checkKey]
          simp only [Sem.run_bind, run_underlying hu, Result.andThen_ok]
          unfold eqT at hq
          rw [hu] at hq
          simp only [Bool.cond_eq_ite] at hq
          split at hq
          · cases hq
          · rename_i hc
            cases hq
            simp only [Bool.or_eq_true, not_or, Bool.not_eq_true, bne_eq_false_iff_eq] at hc
            obtain ⟨i, hi⟩ := info_of_cells hc.2
            have deep : ∀ j ∈ List.range' 0 n, ∃ V, Xs[j]? = some V := fun j hj => by
              have hj : j < n := by simpa using hj
              exact ⟨_, List.getElem?_eq_getElem (by rw [hX.length, hlen]; simpa using hj)⟩
            simp only [Std.Legacy.Range.forIn_eq_forIn_range', Std.Legacy.Range.size, Nat.sub_zero, Nat.add_one_sub_one, Nat.div_one]
            clear hlen hcov hs hkt
            generalize List.range' 0 n = is at deep
            induction is with
            | nil => simp
            | cons j is ih =>
              obtain ⟨V, hV⟩ := deep j (by simp)
              simp only [List.forIn_cons, Sem.run_bind, run_sizeOf w hi, hc.2, Nat.mul_one, Result.andThen_ok, part_cell (isAgg_cell hpl) hV, checkKey_cell hpl, Sem.run_pure]
              exact ih (fun y hy => deep y (by simp [hy]))
      · cases hs

theorem bits_cell {e : EqP} (hp : plainKey e = true) {x y : AV} {X Y : Value} (hx : Rv P σ x X) (hy : Rv P σ y Y) (h : eqp e x y = some true) (n : Nat) : Instr.sameBits n Y X = true := by
  cases e <;> simp only [plainKey, Bool.false_eq_true] at hp <;> cases x <;> simp only [eqp, reduceCtorEq] at h <;> cases y <;> simp only [eqp, reduceCtorEq] at h
  · simp only [Rv] at hx hy
    subst hx; subst hy
    simp only [Option.some.injEq, beq2_eq, beq_iff_eq] at h
    cases n <;> simp [Instr.sameBits, h]
  · simp only [Rv] at hx hy
    subst hx; subst hy
    obtain ⟨h1, h2⟩ := bsel_some h
    have := keq_eq h1
    subst this
    simp only [Option.some.injEq, ieq_eq, beq_iff_eq] at h2
    cases n <;> simp [Instr.sameBits, h2]
  · simp only [Rv] at hx hy
    obtain ⟨rfl, ha⟩ := hx
    obtain ⟨rfl, hb⟩ := hy
    rename_i a b
    simp only [Option.some.injEq] at h
    have h1 : mkStr b = mkStr a := by
      have := str_beq ha hb
      rw [h, ← beq_toListBytes] at this
      have h2 := (strEq_eq ha hb).1 h
      exact h2.symm
    cases n <;> simp only [Instr.sameBits, h1] <;> rw [beq_toListBytes] <;> simp

theorem eqs_all : ∀ {l : List (Nat × EqP)} {xs ys : List AV}, eqs l xs ys = some true → ∀ p ∈ l, ∃ x y, xs[p.1]? = some x ∧ ys[p.1]? = some y ∧ eqp p.2 x y = some true
  | [], xs, ys, _, p, hp => by cases hp
  | (o, e) :: l, xs, ys, h, p, hp => by
    obtain ⟨x, y, r, hx, hy, hr, hc⟩ := eqs_cons h
    rcases hc with ⟨rfl, hc⟩ | ⟨rfl, hb⟩
    · rcases List.mem_cons.1 hp with rfl | hp
      · exact ⟨x, y, hx, hy, hr⟩
      · exact eqs_all hc p hp
    · cases hb

theorem bits_sound (P : Program) : BitsSound P := by
  intro σ kt e k k' K K' hkt hk hk' h
  rcases keyT_cases hkt with ⟨hu, rfl⟩ | ⟨⟨j, hu⟩, rfl⟩ | ⟨rfl, hu⟩
  · exact bits_cell (e := .str) rfl hk hk' h _
  · exact bits_cell (e := .int) rfl hk hk' h _
  · cases hq : eqT P kt with
    | p q =>
      exfalso
      unfold keyT at hkt
      rcases hu with ⟨fs, hu, _⟩ | ⟨n, el, hu, _⟩ <;> rw [hu] at hkt <;> simp only [hq] at hkt <;> cases hkt
    | struct l =>
      rw [hq] at h hkt
      have hcov := keyT_covers hkt
      cases k <;> simp only [eqv, reduceCtorEq] at h
      cases k' <;> simp only [eqv, reduceCtorEq] at h
      rename_i xs ys
      obtain ⟨l1, h⟩ := bsel_some h
      obtain ⟨l2, h⟩ := bsel_some h
      rw [Nat.beq_eq, lenL_eq, lenL_eq] at l1 l2
      simp only [Rv] at hk hk'
      obtain ⟨Xs, rfl, hX, _⟩ := hk
      obtain ⟨Ys, rfl, hY, _⟩ := hk'
      have e1 := hX.length
      have e2 := hY.length
      show Instr.sameBits (9999 + 1) _ _ = true
      generalize 9999 = m
      simp only [Instr.sameBits, Bool.and_eq_true, beq_iff_eq, List.all_eq_true, List.size_toArray]
      refine ⟨by omega, fun p hp => ?_⟩
      obtain ⟨j, hj, e⟩ := List.getElem_of_mem hp
      rw [List.getElem_zip] at e
      rw [List.length_zip] at hj
      have hj1 : j < l.length := by omega
      obtain ⟨h1, h2⟩ := covers_get hcov (List.getElem?_eq_getElem hj1)
      obtain ⟨x, y, hx, hy, hr⟩ := eqs_all h _ (List.getElem_mem hj1)
      rw [h1, Nat.zero_add] at hx hy
      obtain ⟨V, hV, hv⟩ := hX.get hx
      obtain ⟨W, hW, hw⟩ := hY.get hy
      have := bits_cell h2 hv hw hr m
      have eV : Xs[j]'(by omega) = V := by
        have := List.getElem?_eq_getElem (l := Xs) (i := j) (by omega)
        rw [this] at hV; exact Option.some.inj hV
      have eW : Ys[j]'(by omega) = W := by
        have := List.getElem?_eq_getElem (l := Ys) (i := j) (by omega)
        rw [this] at hW; exact Option.some.inj hW
      rw [← e]
      simp only [eV, eW]
      exact this
end Go.Ev
