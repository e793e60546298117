import Derived.Test.YtfmgnnfghdjpfaaEvS
import Derived.Laws.MakeOwn
namespace Go.Ev
variable {P : Program} {σ : Env} {S : St} {w : World}

/-- what an operation that makes a block leaves -/
def MadeR (P : Program) (σ : Env) (w : World) (id : Nat) (v : AV) (bl : AB) (V : Value) (w' : World) : Prop :=
  ∃ ob e, w'.heap = w.heap.push ob ∧ w'.os = w.os ∧ w'.tape = w.tape ∧ w'.output = w.output ∧
    BlkRep P (upd σ id ⟨w.heap.size, 0, e⟩) w' ⟨w.heap.size, 0, e⟩ bl ∧ isOwn bl ∧ Rv P (upd σ id ⟨w.heap.size, 0, e⟩) v V

theorem push_cells {w' : World} {C : Array Value} {t : TypeId} {fz : Nat × Nat} (hw : w'.heap = w.heap.push (.cells C t fz)) (j : Nat) : w'.cell? ⟨w.heap.size, j, none⟩ = C[j]? := by
  simp [World.cell?, hw]
theorem push_frozen {w' : World} {C : Array Value} {t : TypeId} {fz : Nat × Nat} (hw : w'.heap = w.heap.push (.cells C t fz)) (j : Nat) (h : ¬ (fz.1 ≤ j ∧ j < fz.2)) : w'.frozen? ⟨w.heap.size, j, none⟩ = false := by
  simp [World.frozen?, hw]
  intro h1
  omega

/-- a row of cells in a new block -/
theorem blk_push {w' : World} {C : List Value} {X : List Value} {t : TypeId} {fz : Nat × Nat} {cs : List AV} {o : Bool} {e s : Nat} (hw : w'.heap = w.heap.push (.cells (C ++ X).toArray t fz)) (hfz : (C ++ X).length ≤ fz.1 ∨ fz.1 = fz.2)
    (hC : Rvs P σ cs C) (h1 : ∀ u ∈ C, u.oneCell' = true) (hx : o = true → X.length = e * s) : BlkRep P σ w' ⟨w.heap.size, 0, e⟩ (.cells cs o s) := by
  refine ⟨C, hC, h1, fun j v hv => ?_, fun j hj => ?_⟩
  · rw [Nat.zero_add, push_cells hw]
    have hj := (List.getElem?_eq_some_iff.1 hv).1
    simp [List.getElem?_append_left hj, hv]
  · have hj' : j < (C ++ X).length := by
      rw [List.length_append]
      cases o
      · simp at hj; omega
      · have := hx rfl; simp at hj; omega
    rw [Nat.zero_add, push_cells hw]
    refine ⟨?_, push_frozen hw j (by rcases hfz with h | h <;> omega)⟩
    simp
    simpa using hj'

theorem alloc_sound {o : Oper} {t : TypeId} {cells : List AV} {a : Act} (ho : o.op = .alloc t) (hz : zeroCellsT P t = some cells) (id : Nat) (hid : σ id = none) :
    ∃ V w', (execOp a.eval o).run P w = .ok (.value V) w' ∧ MadeR P σ w id (.ptr id 0) (.cells cells false 0) V w' := by
  obtain ⟨i, Z, hi, hZ, h1, h2⟩ := zeroCellsT_some (σ := upd σ id ⟨w.heap.size, 0, 0⟩) hz
  refine ⟨.pointer (some ⟨w.heap.size, 0, none⟩), w.alloc (.cells Z.cells t), ?_, ⟨.cells Z.cells t, 0, rfl, rfl, rfl, rfl, ?_, trivial, ?_⟩⟩
  · simp [execOp, ho, Instr.alloc, run_zero hi hZ, newVar, newRow]
  · refine blk_push (X := []) (t := t) (fz := (0, 0)) ?_ (.inr rfl) h1 h2 (by simp)
    show w.heap.push _ = _
    simp
  · simp only [Rv]
    exact ⟨_, upd_same _ _, by simp⟩

theorem box_sound {o : Oper} {t : TypeId} {x : Operand} {X : Opd} {F : Fr} {a : Act} (ho : o.op = .box t x) (hX : cOpd P x = some X) (hF : FrR P σ F a.tmps) (hR : Rep P σ S w) {cs : List AV} (hcs : (X.val F).cells = some cs) (id : Nat) (hid : σ id = none) :
    ∃ V w', (execOp a.eval o).run P w = .ok (.value V) w' ∧ MadeR P σ w id (.ptr id 0) (.cells cs false 0) V w' := by
  have hx := (opd_sound hF hR hX).mono (upd_mono (L := ⟨w.heap.size, 0, 0⟩) hid)
  obtain ⟨h1, h2⟩ := Rv_cells hx hcs
  refine ⟨.pointer (some ⟨w.heap.size, 0, none⟩), w.alloc (.cells (a.eval x).cells t), ?_, ⟨.cells (a.eval x).cells t, 0, rfl, rfl, rfl, rfl, ?_, trivial, ?_⟩⟩
  · simp [execOp, ho, Instr.box, newVar, newRow]
  · refine blk_push (X := []) (t := t) (fz := (0, 0)) ?_ (.inr rfl) h1 h2 (by simp)
    show w.heap.push _ = _
    simp
  · simp only [Rv]
    exact ⟨_, upd_same _ _, by simp⟩

theorem mkMap_sound {o : Oper} {t : TypeId} {a : Act} (ho : o.op = .makeMap t none) (id : Nat) :
    ∃ V w', (execOp a.eval o).run P w = .ok (.value V) w' ∧ MadeR P σ w id (.map id) (.map []) V w' := by
  refine ⟨.map (some w.heap.size), w.alloc (.map #[] 0), ?_, ⟨.map #[] 0, 0, rfl, rfl, rfl, rfl, ?_, trivial, ?_⟩⟩
  · simp [execOp, ho, Instr.makeMap]
  · refine ⟨#[], 0, ?_, rfl⟩
    show (w.heap.push _)[w.heap.size]? = _
    simp
  · simp only [Rv]
    exact ⟨_, upd_same _ _, rfl⟩

theorem cParts2_get {F : Fr} {a : Act} {size : Nat} (hF : FrR P σ F a.tmps) (hR : Rep P σ S w) : ∀ {ps : List (Nat × Operand)} {qs : List (Nat × Opd)}, cParts2 P ps = some qs →
    (ps.map fun p => (p.1, a.eval p.2)).length = (parts2V size F qs).length ∧
    ∀ (j i : Nat) (V : Value) (off n : Nat) (v : AV), (ps.map fun p => (p.1, a.eval p.2))[j]? = some (i, V) → (parts2V size F qs)[j]? = some (off, n, v) → (fun i => some (i * size, size)) i = some (off, n) ∧ Rv P σ v V
  | [], qs, h => by
    simp only [cParts2, Option.some.injEq] at h
    subst h
    exact ⟨rfl, fun j i V off n v h1 => by simp at h1⟩
  | (i, x) :: ps, qs, h => by
    simp only [cParts2] at h
    split at h
    · rename_i X qs' hx hqs
      cases h
      obtain ⟨h1, h2⟩ := cParts2_get (size := size) hF hR hqs
      refine ⟨by simp [parts2V] at h1 ⊢; exact h1, fun j i' V off' n' v hj1 hj2 => ?_⟩
      cases j with
      | zero =>
        simp only [List.map_cons, List.getElem?_cons_zero, parts2V, Option.some.injEq, Prod.mk.injEq] at hj1 hj2
        obtain ⟨rfl, rfl⟩ := hj1
        obtain ⟨rfl, rfl, rfl⟩ := hj2
        exact ⟨rfl, opd_sound hF hR hx⟩
      | succ j =>
        simp only [List.map_cons, List.getElem?_cons_succ, parts2V] at hj1 hj2
        exact h2 j i' V off' n' v hj1 hj2
    · cases h

/-- a row of zeros -/
theorem range_zero_cells (Z : List Value) : ∀ n : Nat, (List.range (n * Z.length)).map (fun i => Z[i % Z.length]!) = repeatL Z n
  | 0 => by simp [repeatL_zero]
  | n + 1 => by
    rw [Nat.succ_mul, Nat.add_comm, List.range_add, List.map_append, repeatL_succ]
    congr 1
    · apply List.ext_getElem
      · simp
      · intro j h1 h2
        simp only [List.length_map, List.length_range] at h1
        simp [Nat.mod_eq_of_lt h1, List.getElem!_eq_getElem?_getD, h1]
    · rw [← range_zero_cells Z n, List.map_map]
      apply List.map_congr_left
      intro j _
      simp
theorem repeat_Rvs {z : List AV} {Z : List Value} (h : Rvs P σ z Z) : ∀ n, Rvs P σ (repeatL z n) (repeatL Z n)
  | 0 => Rvs_nil.2 rfl
  | n + 1 => by rw [repeatL_succ, repeatL_succ]; exact h.append (repeat_Rvs h n)
theorem repeat_one {Z : List Value} (h : ∀ u ∈ Z, u.oneCell' = true) : ∀ n, ∀ u ∈ repeatL Z n, u.oneCell' = true
  | 0, u, hu => by simp [repeatL_zero] at hu
  | n + 1, u, hu => by
    rw [repeatL_succ] at hu
    rcases List.mem_append.1 hu with hu | hu
    · exact h u hu
    · exact repeat_one h n u hu
theorem elemOfT_some {t e : TypeId} {i : TypeInfo} (h : elemOfT P t = some (e, i)) : P.underlying t = some (.slice e) ∧ P.info? e = some i := by
  unfold elemOfT at h
  split at h
  · rename_i e' hu
    obtain ⟨i', hi, h2⟩ := Option.map_eq_some_iff.1 h
    cases h2
    exact ⟨hu, hi⟩
  · cases h
theorem zeroElemT_some {e : TypeId} {i : TypeInfo} {z : List AV} (hi : P.info? e = some i) (h : zeroElemT P e i = some z) :
    ∃ Z, i.zero = some Z ∧ Rvs P σ z Z.cells.toList ∧ (∀ u ∈ Z.cells.toList, u.oneCell' = true) ∧ Z.cells.size = i.size ∧ z.length = i.size := by
  unfold zeroElemT at h
  split at h
  · rename_i z' hz
    rw [Bool.cond_eq_ite] at h
    split at h
    · rename_i hn
      rw [Nat.beq_eq] at hn
      cases h
      obtain ⟨i', Z, hi', hZ, h1, h2⟩ := zeroCellsT_some (σ := σ) hz
      rw [hi] at hi'; cases hi'
      exact ⟨Z, hZ, h1, h2, by have := h1.length; simp at this; omega, hn⟩
    · cases h
  · cases h

theorem bslice_sound {o : Oper} {t e : TypeId} {i : TypeInfo} {n : Nat} {ps : Array (Nat × Operand)} {qs : List (Nat × Opd)} {z : List AV} {F : Fr} {a : Act} (ho : o.op = .buildSlice t n ps) (he : elemOfT P t = some (e, i))
    (hn : n * i.size ≤ 65536) (hz : zeroElemT P e i = some z) (hq : cParts2 P ps.toList = some qs) (hF : FrR P σ F a.tmps) (hR : Rep P σ S w) (id : Nat) (hid : σ id = none)
    {cs : List AV} (h : fillP (repeatL z n) (parts2V i.size F qs) = some cs) :
    ∃ V w', (execOp a.eval o).run P w = .ok (.value V) w' ∧ MadeR P σ w id (.sl id 0 n n false) (.cells cs false 0) V w' := by
  obtain ⟨hu, hi⟩ := elemOfT_some he
  obtain ⟨Z, hZ, h1, h2, h3, h4⟩ := zeroElemT_some (σ := σ) hi hz
  obtain ⟨hl, hp⟩ := cParts2_get (size := i.size) hF hR hq
  obtain ⟨R, hR1, hR2, hR3⟩ := fill_sound hl hp (repeat_Rvs h1 n) (repeat_one h2 n) h
  have hm := upd_mono (L := ⟨w.heap.size, 0, 0⟩) hid
  have hpl : (ps.map fun (i, x) => (i, a.eval x)).toList = ps.toList.map fun p => (p.1, a.eval p.2) := by simp
  have hlim : ¬ (n * i.size > 2 ^ 24) := by
    have : (2 : Nat) ^ 24 = 16777216 := rfl
    omega
  refine ⟨.slice (some ⟨w.heap.size, 0, none⟩) n n, w.alloc (.cells ⟨R⟩ e), ?_, ⟨.cells ⟨R⟩ e, 0, rfl, rfl, rfl, rfl, ?_, trivial, ?_⟩⟩
  · by_cases h0 : n * i.size = 0
    · have hrange : Array.range (n * i.size) = #[] := by rw [h0]; rfl
      have hlen := repeatL_length Z.cells.toList n
      simp only [Array.length_toList, h3, h0] at hlen
      have hrep := List.eq_nil_of_length_eq_zero hlen
      rw [hrep] at hR1
      simp only [execOp, ho, Instr.buildSlice, Sem.run_bind, run_underlying hu, Result.andThen_ok, sizeOf, typeInfo, run_program, hi, Sem.run_pure, if_neg hlim, hpl, if_pos h0, hrange, Array.map_empty, hR1, newRow, run_newObj]
      rfl
    · have hrow : (Array.range (n * i.size)).map (Z.cells[· % Z.cells.size]!) = (⟨repeatL Z.cells.toList n⟩ : Array Value) := by
        have := range_zero_cells Z.cells.toList n
        simp only [Array.length_toList, h3] at this
        apply Array.ext'
        simp only [Array.toList_map, Array.toList_range, h3]
        rw [← this]
        apply List.map_congr_left
        intro j _
        simp [Array.getElem!_eq_getD, Array.getD_eq_getD_getElem?]
      simp only [execOp, ho, Instr.buildSlice, Sem.run_bind, run_underlying hu, Result.andThen_ok, sizeOf, typeInfo, run_program, hi, Sem.run_pure, if_neg hlim, hpl, if_neg h0, run_zero hi hZ, hrow, hR1, newRow, run_newObj]
      rfl
  · refine blk_push (X := []) (t := e) (fz := (0, 0)) ?_ (.inr rfl) (hR2.mono hm) hR3 (by simp)
    show w.heap.push _ = _
    simp
  · simp only [Rv]
    exact ⟨_, upd_same _ _, by simp⟩

theorem mkSlice_sound {o : Oper} {t e : TypeId} {i : TypeInfo} {lo co : Operand} {L C : Opd} {z : List AV} {F : Fr} {a : Act} (ho : o.op = .makeSlice t lo co) (he : elemOfT P t = some (e, i))
    (hz : zeroElemT P e i = some z) (hL : cOpd P lo = some L) (hC : cOpd P co = some C) (hF : FrR P σ F a.tmps) (hR : Rep P σ S w) (id : Nat) (hid : σ id = none) {v : AV} {bl : AB}
    (h : aMkSlice e i.size i.bytes z L C F id = some (v, bl)) :
    ∃ V w', (execOp a.eval o).run P w = .ok (.value V) w' ∧ MadeR P σ w id v bl V w' := by
  obtain ⟨hu, hi⟩ := elemOfT_some he
  obtain ⟨Z, hZ, h1, h2, h3, h4⟩ := zeroElemT_some (σ := σ) hi hz
  obtain ⟨l, hl, h⟩ := osel_eq_some h
  obtain ⟨c, hc, h⟩ := osel_eq_some h
  obtain ⟨hlc, h⟩ := bsel_some h
  obtain ⟨hc1, h⟩ := bsel_some h
  obtain ⟨hc2, h⟩ := bsel_some h
  cases h
  have hlc := Nat.le_of_ble_eq_true hlc
  have hc1 := Nat.le_of_ble_eq_true hc1
  have hc2 := Nat.le_of_ble_eq_true hc2
  unfold room at hc1 hc2
  obtain ⟨kl, hkl⟩ := natOf_some hl
  obtain ⟨kc, hkc⟩ := natOf_some hc
  have hl' := opd_sound hF hR hL
  have hc' := opd_sound hF hR hC
  rw [hkl] at hl'
  rw [hkc] at hc'
  simp only [Rv] at hl' hc'
  have hm := upd_mono (L := ⟨w.heap.size, 0, 0⟩) hid
  have hrun := run_make (P := P) w t e i Z hu hi hZ kl kc (Int.ofNat l) (Int.ofNat c) (by simp) (by simpa using hlc) (by
    have : ((i.bytes * c : Nat) : Int) ≤ 281474976710656 := by omega
    simpa using this) (by simp; omega)
  have hcells : madeCells Z.cells (c * i.size) = (⟨repeatL Z.cells.toList c⟩ : Array Value) := by
    have := range_zero_cells Z.cells.toList c
    simp only [Array.length_toList, h3] at this
    apply Array.ext'
    simp only [madeCells, Array.toList_map, Array.toList_range, h3]
    rw [← this]
    apply List.map_congr_left
    intro j _
    simp [Array.getElem!_eq_getD, Array.getD_eq_getD_getElem?]
  refine ⟨.slice (some ⟨w.heap.size, 0, none⟩) l c, w.alloc (.cells ⟨repeatL Z.cells.toList c⟩ e), ?_, ⟨.cells ⟨repeatL Z.cells.toList c⟩ e, 0, rfl, rfl, rfl, rfl, ?_, trivial, ?_⟩⟩
  · have ht1 : (Int.ofNat l).toNat = l := rfl
    have ht2 : (Int.ofNat c).toNat = c := rfl
    rw [ht1, ht2, hcells] at hrun
    simp only [execOp, ho, hl', hc', Sem.run_bind, hrun, Result.andThen_ok, Sem.run_pure]
  · refine blk_push (X := []) (t := e) (fz := (0, 0)) ?_ (.inr rfl) ((repeat_Rvs h1 c).mono hm) (repeat_one h2 c) (by simp)
    show w.heap.push _ = _
    simp
  · simp only [Rv]
    exact ⟨_, upd_same _ _, by simp⟩
end Go.Ev
