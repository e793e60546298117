/- A verified evaluator of the model's code, part 5 of 7: allocations, stores, append, the operations that act. -/
import Derived.Test.YtiiplmagnlcpbaaGreatDoorEv4
import Derived.Laws.MakeOwn
import Derived.Lib.ConvBytes
import Derived.CallsIn
import Derived.Deep.Upon
import Derived.OrdersIn
import Derived.RangeFuncLeaves
import Derived.LoopNIn
import Derived.Laws.Externs
import Derived.KernelRfl
namespace Go.Ev
variable {P : Program} {σ : Env} {S : St} {w : World}

/-- what an operation that makes a block leaves -/
def MadeR (P : Program) (σ : Env) (w : World) (id : Nat) (v : AV) (bl : AB) (V : Value) (w' : World) : Prop :=
  ∃ ob e, w'.heap = w.heap.push ob ∧ w'.os = w.os ∧ w'.tape = w.tape ∧ w'.output = w.output ∧
    BlkRep P (upd σ id ⟨w.heap.size, 0, e⟩) w' ⟨w.heap.size, 0, e⟩ bl ∧ isOwn bl ∧ Rv P (upd σ id ⟨w.heap.size, 0, e⟩) v V

theorem push_cells {w' : World} {C : Array Value} {t : TypeId} {fz : Nat × Nat} (hw : w'.heap = w.heap.push (.cells C t fz)) (j : Nat) : w'.cell? ⟨w.heap.size, j, none⟩ = C[j]? := by
  simp [World.cell?, hw]
theorem push_frozen {w' : World} {C : Array Value} {t : TypeId} {fz : Nat × Nat} (hw : w'.heap = w.heap.push (.cells C t fz)) (j : Nat) (h : ¬ (fz.1 ≤ j ∧ j < fz.2)) : w'.frozen? ⟨w.heap.size, j, none⟩ = false := by
  simp [World.frozen?, hw]
  intro h1
  omega

/-- a row of cells in a new block -/
theorem blk_push {w' : World} {C : List Value} {X : List Value} {t : TypeId} {fz : Nat × Nat} {cs : List AV} {o : Bool} {e s : Nat} (hw : w'.heap = w.heap.push (.cells (C ++ X).toArray t fz)) (hfz : (C ++ X).length ≤ fz.1 ∨ fz.1 = fz.2)
    (hC : Rvs P σ cs C) (h1 : ∀ u ∈ C, u.oneCell' = true) (hx : o = true → X.length = e * s) : BlkRep P σ w' ⟨w.heap.size, 0, e⟩ (.cells cs o s) := by
  refine ⟨C, hC, h1, fun j v hv => ?_, fun j hj => ?_⟩
  · rw [Nat.zero_add, push_cells hw]
    have hj := (List.getElem?_eq_some_iff.1 hv).1
    simp [List.getElem?_append_left hj, hv]
  · have hj' : j < (C ++ X).length := by
      rw [List.length_append]
      cases o
      · simp at hj; omega
      · have := hx rfl; simp at hj; omega
    rw [Nat.zero_add, push_cells hw]
    refine ⟨?_, push_frozen hw j (by rcases hfz with h | h <;> omega)⟩
    simp
    simpa using hj'

theorem alloc_sound {o : Oper} {t : TypeId} {cells : List AV} {a : Act} (ho : o.op = .alloc t) (hz : zeroCellsT P t = some cells) (id : Nat) (hid : σ id = none) :
    ∃ V w', (execOp a.eval o).run P w = .ok (.value V) w' ∧ MadeR P σ w id (.ptr id 0) (.cells cells false 0) V w' := by
  obtain ⟨i, Z, hi, hZ, h1, h2⟩ := zeroCellsT_some (σ := upd σ id ⟨w.heap.size, 0, 0⟩) hz
  refine ⟨.pointer (some ⟨w.heap.size, 0, none⟩), w.alloc (.cells Z.cells t), ?_, ⟨.cells Z.cells t, 0, rfl, rfl, rfl, rfl, ?_, trivial, ?_⟩⟩
  · simp [execOp, ho, Instr.alloc, run_zero hi hZ, newVar, newRow]
  · refine blk_push (X := []) (t := t) (fz := (0, 0)) ?_ (.inr rfl) h1 h2 (by simp)
    show w.heap.push _ = _
    simp
  · simp only [Rv]
    exact ⟨_, upd_same _ _, by simp⟩

theorem box_sound {o : Oper} {t : TypeId} {x : Operand} {X : Opd} {F : Fr} {a : Act} (ho : o.op = .box t x) (hX : cOpd P x = some X) (hF : FrR P σ F a.tmps) (hR : Rep P σ S w) {cs : List AV} (hcs : (X.val F).cells = some cs) (id : Nat) (hid : σ id = none) :
    ∃ V w', (execOp a.eval o).run P w = .ok (.value V) w' ∧ MadeR P σ w id (.ptr id 0) (.cells cs false 0) V w' := by
  have hx := (opd_sound hF hR hX).mono (upd_mono (L := ⟨w.heap.size, 0, 0⟩) hid)
  obtain ⟨h1, h2⟩ := Rv_cells hx hcs
  refine ⟨.pointer (some ⟨w.heap.size, 0, none⟩), w.alloc (.cells (a.eval x).cells t), ?_, ⟨.cells (a.eval x).cells t, 0, rfl, rfl, rfl, rfl, ?_, trivial, ?_⟩⟩
  · simp [execOp, ho, Instr.box, newVar, newRow]
  · refine blk_push (X := []) (t := t) (fz := (0, 0)) ?_ (.inr rfl) h1 h2 (by simp)
    show w.heap.push _ = _
    simp
  · simp only [Rv]
    exact ⟨_, upd_same _ _, by simp⟩

theorem mkMap_sound {o : Oper} {t : TypeId} {a : Act} (ho : o.op = .makeMap t none) (id : Nat) :
    ∃ V w', (execOp a.eval o).run P w = .ok (.value V) w' ∧ MadeR P σ w id (.map id) (.map []) V w' := by
  refine ⟨.map (some w.heap.size), w.alloc (.map #[] 0), ?_, ⟨.map #[] 0, 0, rfl, rfl, rfl, rfl, ?_, trivial, ?_⟩⟩
  · simp [execOp, ho, Instr.makeMap]
  · refine ⟨#[], 0, ?_, rfl⟩
    show (w.heap.push _)[w.heap.size]? = _
    simp
  · simp only [Rv]
    exact ⟨_, upd_same _ _, rfl⟩

theorem cParts2_get {F : Fr} {a : Act} {size : Nat} (hF : FrR P σ F a.tmps) (hR : Rep P σ S w) : ∀ {ps : List (Nat × Operand)} {qs : List (Nat × Opd)}, cParts2 P ps = some qs →
    (ps.map fun p => (p.1, a.eval p.2)).length = (parts2V size F qs).length ∧
    ∀ (j i : Nat) (V : Value) (off n : Nat) (v : AV), (ps.map fun p => (p.1, a.eval p.2))[j]? = some (i, V) → (parts2V size F qs)[j]? = some (off, n, v) → (fun i => some (i * size, size)) i = some (off, n) ∧ Rv P σ v V
  | [], qs, h => by
    simp only [cParts2, Option.some.injEq] at h
    subst h
    exact ⟨rfl, fun j i V off n v h1 => by simp at h1⟩
  | (i, x) :: ps, qs, h => by
    simp only [cParts2] at h
    split at h
    · rename_i X qs' hx hqs
      cases h
      obtain ⟨h1, h2⟩ := cParts2_get (size := size) hF hR hqs
      refine ⟨by simp [parts2V] at h1 ⊢; exact h1, fun j i' V off' n' v hj1 hj2 => ?_⟩
      cases j with
      | zero =>
        simp only [List.map_cons, List.getElem?_cons_zero, parts2V, Option.some.injEq, Prod.mk.injEq] at hj1 hj2
        obtain ⟨rfl, rfl⟩ := hj1
        obtain ⟨rfl, rfl, rfl⟩ := hj2
        exact ⟨rfl, opd_sound hF hR hx⟩
      | succ j =>
        simp only [List.map_cons, List.getElem?_cons_succ, parts2V] at hj1 hj2
        exact h2 j i' V off' n' v hj1 hj2
    · cases h

/-- a row of zeros -/
theorem range_zero_cells (Z : List Value) : ∀ n : Nat, (List.range (n * Z.length)).map (fun i => Z[i % Z.length]!) = repeatL Z n
  | 0 => by simp [repeatL_zero]
  | n + 1 => by
    rw [Nat.succ_mul, Nat.add_comm, List.range_add, List.map_append, repeatL_succ]
    congr 1
    · apply List.ext_getElem
      · simp
      · intro j h1 h2
        simp only [List.length_map, List.length_range] at h1
        simp [Nat.mod_eq_of_lt h1, List.getElem!_eq_getElem?_getD, h1]
    · rw [← range_zero_cells Z n, List.map_map]
      apply List.map_congr_left
      intro j _
      simp
theorem repeat_Rvs {z : List AV} {Z : List Value} (h : Rvs P σ z Z) : ∀ n, Rvs P σ (repeatL z n) (repeatL Z n)
  | 0 => Rvs_nil.2 rfl
  | n + 1 => by rw [repeatL_succ, repeatL_succ]; exact h.append (repeat_Rvs h n)
theorem repeat_one {Z : List Value} (h : ∀ u ∈ Z, u.oneCell' = true) : ∀ n, ∀ u ∈ repeatL Z n, u.oneCell' = true
  | 0, u, hu => by simp [repeatL_zero] at hu
  | n + 1, u, hu => by
    rw [repeatL_succ] at hu
    rcases List.mem_append.1 hu with hu | hu
    · exact h u hu
    · exact repeat_one h n u hu
theorem elemOfT_some {t e : TypeId} {i : TypeInfo} (h : elemOfT P t = some (e, i)) : P.underlying t = some (.slice e) ∧ P.info? e = some i := by
  unfold elemOfT at h
  split at h
  · rename_i e' hu
    obtain ⟨i', hi, h2⟩ := Option.map_eq_some_iff.1 h
    cases h2
    exact ⟨hu, hi⟩
  · cases h
theorem zeroElemT_some {e : TypeId} {i : TypeInfo} {z : List AV} (hi : P.info? e = some i) (h : zeroElemT P e i = some z) :
    ∃ Z, i.zero = some Z ∧ Rvs P σ z Z.cells.toList ∧ (∀ u ∈ Z.cells.toList, u.oneCell' = true) ∧ Z.cells.size = i.size ∧ z.length = i.size := by
  unfold zeroElemT at h
  split at h
  · rename_i z' hz
    rw [Bool.cond_eq_ite] at h
    split at h
    · rename_i hn
      rw [Nat.beq_eq] at hn
      cases h
      obtain ⟨i', Z, hi', hZ, h1, h2⟩ := zeroCellsT_some (σ := σ) hz
      rw [hi] at hi'; cases hi'
      exact ⟨Z, hZ, h1, h2, by have := h1.length; simp at this; omega, hn⟩
    · cases h
  · cases h

theorem bslice_sound {o : Oper} {t e : TypeId} {i : TypeInfo} {n : Nat} {ps : Array (Nat × Operand)} {qs : List (Nat × Opd)} {z : List AV} {F : Fr} {a : Act} (ho : o.op = .buildSlice t n ps) (he : elemOfT P t = some (e, i))
    (hn : n * i.size ≤ 65536) (hz : zeroElemT P e i = some z) (hq : cParts2 P ps.toList = some qs) (hF : FrR P σ F a.tmps) (hR : Rep P σ S w) (id : Nat) (hid : σ id = none)
    {cs : List AV} (h : fillP (repeatL z n) (parts2V i.size F qs) = some cs) :
    ∃ V w', (execOp a.eval o).run P w = .ok (.value V) w' ∧ MadeR P σ w id (.sl id 0 n n false) (.cells cs false 0) V w' := by
  obtain ⟨hu, hi⟩ := elemOfT_some he
  obtain ⟨Z, hZ, h1, h2, h3, h4⟩ := zeroElemT_some (σ := σ) hi hz
  obtain ⟨hl, hp⟩ := cParts2_get (size := i.size) hF hR hq
  obtain ⟨R, hR1, hR2, hR3⟩ := fill_sound hl hp (repeat_Rvs h1 n) (repeat_one h2 n) h
  have hm := upd_mono (L := ⟨w.heap.size, 0, 0⟩) hid
  have hpl : (ps.map fun (i, x) => (i, a.eval x)).toList = ps.toList.map fun p => (p.1, a.eval p.2) := by simp
  have hlim : ¬ (n * i.size > 2 ^ 24) := by
    have : (2 : Nat) ^ 24 = 16777216 := rfl
    omega
  refine ⟨.slice (some ⟨w.heap.size, 0, none⟩) n n, w.alloc (.cells ⟨R⟩ e), ?_, ⟨.cells ⟨R⟩ e, 0, rfl, rfl, rfl, rfl, ?_, trivial, ?_⟩⟩
  · by_cases h0 : n * i.size = 0
    · have hrange : Array.range (n * i.size) = #[] := by rw [h0]; rfl
      have hlen := repeatL_length Z.cells.toList n
      simp only [Array.length_toList, h3, h0] at hlen
      have hrep := List.eq_nil_of_length_eq_zero hlen
      rw [hrep] at hR1
      simp only [execOp, ho, Instr.buildSlice, Sem.run_bind, run_underlying hu, Result.andThen_ok, sizeOf, typeInfo, run_program, hi, Sem.run_pure, if_neg hlim, hpl, if_pos h0, hrange, Array.map_empty, hR1, newRow, run_newObj]
      rfl
    · have hrow : (Array.range (n * i.size)).map (Z.cells[· % Z.cells.size]!) = (⟨repeatL Z.cells.toList n⟩ : Array Value) := by
        have := range_zero_cells Z.cells.toList n
        simp only [Array.length_toList, h3] at this
        apply Array.ext'
        simp only [Array.toList_map, Array.toList_range, h3]
        rw [← this]
        apply List.map_congr_left
        intro j _
        simp [Array.getElem!_eq_getD, Array.getD_eq_getD_getElem?]
      simp only [execOp, ho, Instr.buildSlice, Sem.run_bind, run_underlying hu, Result.andThen_ok, sizeOf, typeInfo, run_program, hi, Sem.run_pure, if_neg hlim, hpl, if_neg h0, run_zero hi hZ, hrow, hR1, newRow, run_newObj]
      rfl
  · refine blk_push (X := []) (t := e) (fz := (0, 0)) ?_ (.inr rfl) (hR2.mono hm) hR3 (by simp)
    show w.heap.push _ = _
    simp
  · simp only [Rv]
    exact ⟨_, upd_same _ _, by simp⟩

theorem mkSlice_sound {o : Oper} {t e : TypeId} {i : TypeInfo} {lo co : Operand} {L C : Opd} {z : List AV} {F : Fr} {a : Act} (ho : o.op = .makeSlice t lo co) (he : elemOfT P t = some (e, i))
    (hz : zeroElemT P e i = some z) (hL : cOpd P lo = some L) (hC : cOpd P co = some C) (hF : FrR P σ F a.tmps) (hR : Rep P σ S w) (id : Nat) (hid : σ id = none) {v : AV} {bl : AB}
    (h : aMkSlice e i.size i.bytes z L C F id = some (v, bl)) :
    ∃ V w', (execOp a.eval o).run P w = .ok (.value V) w' ∧ MadeR P σ w id v bl V w' := by
  obtain ⟨hu, hi⟩ := elemOfT_some he
  obtain ⟨Z, hZ, h1, h2, h3, h4⟩ := zeroElemT_some (σ := σ) hi hz
  obtain ⟨l, hl, h⟩ := osel_eq_some h
  obtain ⟨c, hc, h⟩ := osel_eq_some h
  obtain ⟨hlc, h⟩ := bsel_some h
  obtain ⟨hc1, h⟩ := bsel_some h
  obtain ⟨hc2, h⟩ := bsel_some h
  cases h
  have hlc := Nat.le_of_ble_eq_true hlc
  have hc1 := Nat.le_of_ble_eq_true hc1
  have hc2 := Nat.le_of_ble_eq_true hc2
  unfold room at hc1 hc2
  obtain ⟨kl, hkl⟩ := natOf_some hl
  obtain ⟨kc, hkc⟩ := natOf_some hc
  have hl' := opd_sound hF hR hL
  have hc' := opd_sound hF hR hC
  rw [hkl] at hl'
  rw [hkc] at hc'
  simp only [Rv] at hl' hc'
  have hm := upd_mono (L := ⟨w.heap.size, 0, 0⟩) hid
  have hrun := run_make (P := P) w t e i Z hu hi hZ kl kc (Int.ofNat l) (Int.ofNat c) (by simp) (by simpa using hlc) (by
    have : ((i.bytes * c : Nat) : Int) ≤ 281474976710656 := by omega
    simpa using this) (by simp; omega)
  have hcells : madeCells Z.cells (c * i.size) = (⟨repeatL Z.cells.toList c⟩ : Array Value) := by
    have := range_zero_cells Z.cells.toList c
    simp only [Array.length_toList, h3] at this
    apply Array.ext'
    simp only [madeCells, Array.toList_map, Array.toList_range, h3]
    rw [← this]
    apply List.map_congr_left
    intro j _
    simp [Array.getElem!_eq_getD, Array.getD_eq_getD_getElem?]
  refine ⟨.slice (some ⟨w.heap.size, 0, none⟩) l c, w.alloc (.cells ⟨repeatL Z.cells.toList c⟩ e), ?_, ⟨.cells ⟨repeatL Z.cells.toList c⟩ e, 0, rfl, rfl, rfl, rfl, ?_, trivial, ?_⟩⟩
  · have ht1 : (Int.ofNat l).toNat = l := rfl
    have ht2 : (Int.ofNat c).toNat = c := rfl
    rw [ht1, ht2, hcells] at hrun
    simp only [execOp, ho, hl', hc', Sem.run_bind, hrun, Result.andThen_ok, Sem.run_pure]
  · refine blk_push (X := []) (t := e) (fz := (0, 0)) ?_ (.inr rfl) ((repeat_Rvs h1 c).mono hm) (repeat_one h2 c) (by simp)
    show w.heap.push _ = _
    simp
  · simp only [Rv]
    exact ⟨_, upd_same _ _, by simp⟩

/-! ### the bytes of a string -/
theorem bytesWorld_heap (w : World) (e : TypeId) (s : ByteArray) : (Lib.bytesWorld w e s).heap = w.heap.push (.cells (Lib.bytesCells w e s) e ((Lib.bytesCells w e s).size, (Lib.bytesCells w e s).size + 1)) := by
  apply Array.ext_getElem?
  intro j
  by_cases h1 : j < w.heap.size
  · rw [Lib.bytesWorld_at_old w e s j h1, Array.getElem?_push, if_neg (by omega)]
  · by_cases h2 : j = w.heap.size
    · subst h2
      rw [Lib.bytesWorld_at_new, Array.getElem?_push_size]
    · rw [Array.getElem?_eq_none (by rw [Lib.bytesWorld_size]; omega), Array.getElem?_eq_none (by simp; omega)]

theorem byteCells_list (s : List Nat) (hb : Bytes s) : Go.byteCells (mkStr s) = s.map fun b => Value.int .u8 (Int.ofNat b) := by
  unfold Go.byteCells
  simp only [mkStr, List.map_map]
  apply List.map_congr_left
  intro b hbm
  show Value.int .u8 (((UInt8.ofNat b).toNat : Nat) : Int) = _
  rw [byteNat (hb b hbm)]
  rfl
theorem byteCells_Rvs : ∀ (s : List Nat), Rvs P σ (byteCells s) (s.map fun b => Value.int .u8 (Int.ofNat b))
  | [] => Rvs_nil.2 rfl
  | b :: s => Rvs_cons.2 ⟨_, _, rfl, by simp only [Rv], byteCells_Rvs s⟩

theorem strBytes_sound {o : Oper} {src dst e : TypeId} {x : Operand} {xv : AV} {a : Act} (ho : o.op = .convert src dst x) (hs : P.underlying src = some .string) (hd : P.underlying dst = some (.slice e)) (he : P.underlying e = some (.int .u8))
    (hx : Rv P σ xv (a.eval x)) (id : Nat) (hid : σ id = none) {v : AV} {bl : AB} (hv : strBytesV xv id = some (v, bl)) : ∃ V w', (execOp a.eval o).run P w = .ok (.value V) w' ∧ MadeR P σ w id v bl V w' := by
  cases xv <;> simp only [strBytesV, reduceCtorEq, Option.some.injEq, Prod.mk.injEq] at hv
  obtain ⟨rfl, rfl⟩ := hv
  rename_i s
  simp only [Rv] at hx
  obtain ⟨hx, hb⟩ := hx
  have hrun := Lib.run_convert_string_bytes (P := P) w src dst e (mkStr s) hs hd he
  have hge := grownCap_ge w (mkStr s).size 0 e
  rw [mkStr_size] at hrun hge
  refine ⟨_, _, by simp only [execOp, ho, hx, Sem.run_bind, hrun, Result.andThen_ok, Sem.run_pure]; rfl, ?_⟩
  refine ⟨_, grownCap w s.length 0 e - s.length, bytesWorld_heap w e (mkStr s), ?_, ?_, ?_, ?_, trivial, ?_⟩
  · simp [Lib.bytesWorld, World.freeze, World.alloc, World.drew, -World.alloc_eq, -World.drew_eq]
  · simp [Lib.bytesWorld, World.freeze, World.alloc, World.drew, -World.alloc_eq, -World.drew_eq]
  · simp [Lib.bytesWorld, World.freeze, World.alloc, World.drew, -World.alloc_eq, -World.drew_eq]
  · have hcells : Lib.bytesCells w e (mkStr s) = ((s.map fun b => Value.int .u8 (Int.ofNat b)) ++ List.replicate (grownCap w s.length 0 e - s.length) (Value.int .u8 0)).toArray := by
      apply Array.ext'
      unfold Lib.bytesCells
      rw [mkStr_size]
      simp only [Array.toList_append, Array.toList_map, Array.toList_replicate]
      congr 1
      exact byteCells_list s hb
    have hw := bytesWorld_heap w e (mkStr s)
    rw [hcells] at hw
    refine blk_push (s := 1) hw (.inl ?_) (byteCells_Rvs s) (fun u hu => ?_) (fun _ => ?_)
    · simp
    · obtain ⟨_, _, rfl⟩ := List.mem_map.1 hu; rfl
    · simp
  · simp only [Rv]
    refine ⟨_, upd_same _ _, ?_⟩
    rw [lenL_eq]
    simp only [if_true, Nat.add_zero]
    congr 1
    omega
end Go.Ev

namespace Go.Ev
variable {P : Program} {σ : Env} {S : St} {w : World}

/-- ONE OPERATION THAT MAKES A BLOCK. -/
theorem evA_sound {o : Oper} {ao : AlOp} (hc : cOp P o.op = some (.a ao)) {F : Fr} {a : Act} (hF : FrR P σ F a.tmps) (hR : Rep P σ S w) (id : Nat) (hid : σ id = none) {v : AV} {bl : AB} (hv : evA ao F id = some (v, bl)) :
    ∃ V w', (execOp a.eval o).run P w = .ok (.value V) w' ∧ MadeR P σ w id v bl V w' := by
  obtain ⟨dst, op, type, pos, after, guard⟩ := o
  simp only at hc
  cases op <;> (try (first | (obtain ⟨y, _, h2⟩ := q_some hc; cases h2; done) | (obtain ⟨y, _, h2⟩ := xx_some hc; cases h2; done) | (cases hc; done)))
  case alloc t =>
    obtain ⟨y, h1, h2⟩ := al_some hc; cases h2
    obtain ⟨z, hz, h1⟩ := bind_some' h1; cases h1
    cases hv
    exact alloc_sound rfl hz id hid
  case box t x =>
    obtain ⟨y, h1, h2⟩ := al_some hc; cases h2
    obtain ⟨X, hX, h1⟩ := bind_some' h1; cases h1
    obtain ⟨cs, h3, h4⟩ := osel_eq_some (show (osel (X.val F).cells fun cs => some (AV.ptr id 0, AB.cells cs false 0)) = some (v, bl) from hv)
    cases h4
    exact box_sound rfl hX hF hR h3 id hid
  case build t ps =>
    simp only [cOp] at hc
    split at hc
    · rw [Bool.cond_eq_ite] at hc
      split at hc
      · obtain ⟨y, _, h2⟩ := q_some hc; cases h2
      · cases hc
    · obtain ⟨y, _, h2⟩ := q_some hc; cases h2
    · cases hc
  case buildSlice t n ps =>
    obtain ⟨y, h1, h2⟩ := al_some hc; cases h2
    obtain ⟨⟨e, i⟩, he, h1⟩ := bind_some' h1
    simp only at h1
    split at h1
    · cases h1
    · rename_i hn
      obtain ⟨z, hz, h1⟩ := bind_some' h1
      obtain ⟨qs, hq, h1⟩ := bind_some' h1; cases h1
      obtain ⟨cs, h3, h4⟩ := osel_eq_some (show (osel (fillP (repeatL z n) (parts2V i.size F qs)) fun cs => some (AV.sl id 0 n n false, AB.cells cs false 0)) = some (v, bl) from hv)
      cases h4
      exact bslice_sound rfl he (by omega) hz hq hF hR id hid h3
  case makeSlice t l c =>
    obtain ⟨y, h1, h2⟩ := al_some hc; cases h2
    obtain ⟨⟨e, i⟩, he, h1⟩ := bind_some' h1
    obtain ⟨z, hz, h1⟩ := bind_some' h1
    obtain ⟨L, hL, h1⟩ := bind_some' h1
    obtain ⟨C, hC, h1⟩ := bind_some' h1; cases h1
    exact mkSlice_sound rfl he hz hL hC hF hR id hid hv
  case makeMap t r =>
    cases r <;> simp only [cOp, reduceCtorEq] at hc
    obtain ⟨y, h1, h2⟩ := al_some hc; cases h2
    cases h1
    cases hv
    exact mkMap_sound rfl id
  case insert t m k x =>
    simp only [cOp] at hc
    split at hc
    · obtain ⟨y, _, h2⟩ := xx_some hc; cases h2
    · cases hc
  case mapUpdate t m k x =>
    simp only [cOp] at hc
    split at hc
    · obtain ⟨y, _, h2⟩ := xx_some hc; cases h2
    · cases hc
  case convert src dst x =>
    simp only [cOp] at hc
    split at hc
    · obtain ⟨y, _, h2⟩ := q_some hc; cases h2
    · obtain ⟨y, _, h2⟩ := q_some hc; cases h2
    · obtain ⟨y, _, h2⟩ := q_some hc; cases h2
    · split at hc
      · obtain ⟨y, _, h2⟩ := q_some hc; cases h2
      · cases hc
    · rename_i e hs hd
      split at hc
      · rename_i he
        obtain ⟨y, h1, h2⟩ := al_some hc; cases h2
        obtain ⟨X, hX, h1⟩ := bind_some' h1; cases h1
        exact strBytes_sound rfl hs hd he (opd_sound hF hR hX) id hid hv
      · cases hc
    · cases hc
  case makeInterface t x =>
    simp only [cOp] at hc
    split at hc
    · cases hc
    · obtain ⟨y, _, h2⟩ := q_some hc; cases h2
    · cases hc
  case makeFunc fn x y =>
    cases fn <;> (try (first | (obtain ⟨y, _, h2⟩ := q_some hc; cases h2; done) | (cases hc; done)))
    simp only [cOp] at hc
    split at hc
    · obtain ⟨y, _, h2⟩ := q_some hc; cases h2
    · cases hc
  case slice t x lo hh mx =>
    simp only [cOp, Bool.cond_eq_ite] at hc
    split at hc
    · cases hc
    · split at hc
      · obtain ⟨y, _, h2⟩ := q_some hc; cases h2
      · obtain ⟨y, _, h2⟩ := q_some hc; cases h2
      · obtain ⟨y, _, h2⟩ := q_some hc; cases h2
      · cases hc
  case fieldAddr t x f =>
    simp only [cOp] at hc
    split at hc
    · obtain ⟨y, _, h2⟩ := q_some hc; cases h2
    · cases hc
  case field t x f =>
    simp only [cOp] at hc
    split at hc
    · obtain ⟨y, _, h2⟩ := q_some hc; cases h2
    · cases hc
  case indexAddr t x f =>
    simp only [cOp] at hc
    split at hc
    · obtain ⟨y, _, h2⟩ := q_some hc; cases h2
    · obtain ⟨y, _, h2⟩ := q_some hc; cases h2
    · cases hc
  case index t x f =>
    simp only [cOp] at hc
    split at hc
    · obtain ⟨y, _, h2⟩ := q_some hc; cases h2
    · obtain ⟨y, _, h2⟩ := q_some hc; cases h2
    · cases hc
  case lookup t x f ok =>
    simp only [cOp] at hc
    split at hc
    · obtain ⟨y, _, h2⟩ := q_some hc; cases h2
    · cases hc
  case typeAssert x xt t ok =>
    simp only [cOp] at hc
    split at hc
    · cases hc
    · obtain ⟨y, _, h2⟩ := q_some hc; cases h2
    · cases hc
  case call c =>
    obtain ⟨callee, args, argTypes⟩ := c
    cases callee with
    | value f =>
      simp only [cOp] at hc
      split at hc
      · obtain ⟨y, _, h2⟩ := xx_some hc; cases h2
      · obtain ⟨y, _, h2⟩ := xx_some hc; cases h2
    | invoke r m => obtain ⟨y, _, h2⟩ := xx_some hc; cases h2
    | builtin b =>
      simp only [cOp] at hc
      split at hc
      · split at hc
        all_goals (first | (obtain ⟨y, _, h2⟩ := q_some hc; cases h2; done) | (cases hc; done))
      · split at hc
        all_goals (first | (obtain ⟨y, _, h2⟩ := q_some hc; cases h2; done) | (cases hc; done))
      · obtain ⟨y, _, h2⟩ := q_some hc; cases h2
      · obtain ⟨y, _, h2⟩ := q_some hc; cases h2
      · split at hc
        · rw [Bool.cond_eq_ite] at hc
          split at hc
          · obtain ⟨y, _, h2⟩ := xx_some hc; cases h2
          · cases hc
        · cases hc
      · split at hc
        · obtain ⟨y, _, h2⟩ := xx_some hc; cases h2
        · cases hc
      · obtain ⟨_, _, _, _, _, _, _, _, _, _, _, _, _, _, h2⟩ := cCopy_some hc; cases h2

/-! ## writing -/
theorem heap_setCells_other (g : Nat) : ∀ (vs : List Value) (o : Nat) (w : World) (r : Nat), r ≠ g → (w.setCells g o vs).heap[r]? = w.heap[r]?
  | [], o, w, r, h => rfl
  | v :: vs, o, w, r, h => by
    rw [World.setCells, heap_setCells_other g vs (o + 1) _ r h]
    exact heap_setCell_other w ⟨g, o, none⟩ r v h
theorem size_setCells (g : Nat) : ∀ (vs : List Value) (o : Nat) (w : World), (w.setCells g o vs).heap.size = w.heap.size
  | [], o, w => rfl
  | v :: vs, o, w => by rw [World.setCells, size_setCells g vs (o + 1)]; simp
theorem os_setCells (g : Nat) : ∀ (vs : List Value) (o : Nat) (w : World), (w.setCells g o vs).os = w.os ∧ (w.setCells g o vs).tape = w.tape ∧ (w.setCells g o vs).output = w.output
  | [], o, w => ⟨rfl, rfl, rfl⟩
  | v :: vs, o, w => by rw [World.setCells]; exact os_setCells g vs (o + 1) _

/-- cells are put into a row of one's own -/
theorem store_sound (hR : Rep P σ S w) {b off : Nat} {cs : List AV} {Cs : List Value} (hC : Rvs P σ cs Cs) (h1 : ∀ u ∈ Cs, u.oneCell' = true) {S' : St} (h : storeN S b off cs = some S') :
    ∃ L, σ b = some L ∧ w.there L.r (L.d + off) Cs.length ∧ Ext P σ S w σ S' (w.setCells L.r (L.d + off) Cs) := by
  obtain ⟨bl, hb, h⟩ := osel_eq_some h
  cases bl <;> simp only [storeB, reduceCtorEq] at h
  rename_i old o s
  obtain ⟨cs', hput, h⟩ := osel_eq_some h
  cases h
  obtain ⟨L, hL, hlt, Os, h2, h3, h4, h5⟩ := hR.blk b _ hb
  have hle := (put_some hput).1
  have hlen := h2.length
  have hcl := hC.length
  have hth : w.there L.r (L.d + off) Cs.length := fun j hj => by
    have := h5 (off + j) (by omega)
    rwa [← Nat.add_assoc] at this
  refine ⟨L, hL, hth, ?_⟩
  obtain ⟨e1, e2, e3⟩ := os_setCells L.r Cs (L.d + off) w
  have hput' := h2.put hC hput
  refine Ext.write hR hb trivial trivial hL (fun r hr => heap_setCells_other L.r Cs _ w r hr) (size_setCells L.r Cs _ w) e1 e2 e3 ?_
  refine ⟨Os.take off ++ Cs ++ Os.drop (off + Cs.length), hput', fun u hu => ?_, fun j v hv => ?_, fun j hj => ?_⟩
  · simp only [List.mem_append] at hu
    rcases hu with (hu | hu) | hu
    · exact h3 u (List.mem_of_mem_take hu)
    · exact h1 u hu
    · exact h3 u (List.mem_of_mem_drop hu)
  · have hget : (Os.take off ++ Cs ++ Os.drop (off + Cs.length))[j]? = if j < off then Os[j]? else if j < off + Cs.length then Cs[j - off]? else Os[j]? :=
      put_get (l := Os) (vs := Cs) (k := off) (by rw [put_eq, if_pos (by omega)]) j
    rw [hget] at hv
    split at hv
    · rename_i hlt1
      rw [World.cell?_setCells_out L.r Cs (L.d + off) w _ (fun _ _ => .inl (by simp only; omega))]
      exact h4 j v hv
    · split at hv
      · rename_i h6 h7
        have := World.cell?_setCells_in L.r Cs (L.d + off) w (fun k hk => (hth k hk).1) (j - off) (by omega)
        rw [show L.d + off + (j - off) = L.d + j by omega] at this
        rw [this]
        rw [List.getElem?_eq_getElem (by omega)] at hv
        exact hv
      · rename_i h6 h7
        rw [World.cell?_setCells_out L.r Cs (L.d + off) w _ (fun _ _ => .inr (by simp only; omega))]
        exact h4 j v hv
  · have hj' : j < Os.length + if o = true then L.e * s else 0 := by
      have : (Os.take off ++ Cs ++ Os.drop (off + Cs.length)).length = Os.length := by simp; omega
      rw [this] at hj
      exact hj
    have := h5 j hj'
    exact ⟨World.isSome_setCells L.r Cs (L.d + off) w _ this.1, by rw [World.frozen?_setCells]; exact this.2⟩
end Go.Ev

namespace Go.Ev
variable {P : Program} {σ : Env} {S : St} {w : World}

/-! ## append -/
theorem src_sound {u : TypeId} {i : TypeInfo} (hu : srcT P u i = true) (hR : Rep P σ S w) {x : AV} {X : Value} (hx : Rv P σ x X) {n : Nat} {new : List AV} (hn : lenOfV x = some n) (hs : srcCells x S.h i.size n = some new) :
    ∃ News, Src P i.size u X n News w ∧ Rvs P σ new News := by
  have hkind : (∃ e', P.underlying u = some (.slice e')) ∨ P.underlying u = some .string := by
    unfold srcT at hu
    split at hu
    · exact .inl ⟨_, ‹_›⟩
    · exact .inr ‹_›
    · cases hu
  cases x <;> simp only [lenOfV, reduceCtorEq, Option.some.injEq] at hn <;> simp only [srcCells] at hs <;> simp only [Rv] at hx
  · obtain ⟨rfl, hb⟩ := hx
    rename_i s
    rw [lenL_eq] at hn
    subst hn
    obtain ⟨h0, hs⟩ := bsel_some hs
    rw [Nat.beq_eq] at h0
    obtain ⟨r, h1, h2⟩ := osel_eq_some hs
    cases h2
    rw [takeL_eq, if_pos (Nat.le_refl _), List.take_length] at h1
    cases h1
    refine ⟨s.map fun b => Value.int .u8 (Int.ofNat b), ⟨hkind, fun _ => by simp [Builtin.lenOf, mkStr_size], ?_, ?_, by simp [h0], fun u hu => by obtain ⟨_, _, rfl⟩ := List.mem_map.1 hu; rfl⟩, byteCells_Rvs s⟩
    · rw [h0, ← byteCells_list s hb]
      have := firstCells_string (P := P) (mkStr s) w
      rw [mkStr_size] at this
      exact this
    · rw [h0, ← byteCells_list s hb]
      have := firstCells_string (P := P) (mkStr s) w.drew
      rw [mkStr_size] at this
      exact this
  · obtain ⟨L, hL, rfl⟩ := hx
    subst hn
    obtain ⟨L', Cs, hL', h3, h4, h5, h6⟩ := loadN_some hR hs
    rw [hL] at hL'; cases hL'
    have hcell : ∀ j u, Cs[j]? = some u → w.cell? ((⟨L.r, L.d + _, none⟩ : Addr).add j) = some u := fun j u hu => by rw [Addr.add_mid]; exact h6 j u hu
    exact ⟨Cs, ⟨hkind, fun _ => rfl, run_firstCells_some w _ _ _ _ _ Cs h4 hcell, run_firstCells_some w.drew _ _ _ _ _ Cs h4 (by simpa using hcell), h4, h5⟩, h3⟩
  · subst hx
    subst hn
    obtain ⟨_, hs⟩ := bsel_some hs
    cases hs
    exact ⟨[], ⟨hkind, fun _ => rfl, run_firstCells_none w _ _ _ _, run_firstCells_none w.drew _ _ _ _, by simp, fun _ h => by cases h⟩, Rvs_nil.2 rfl⟩
  · obtain ⟨A, c, rfl⟩ := hx
    subst hn
    obtain ⟨_, hs⟩ := bsel_some hs
    cases hs
    exact ⟨[], ⟨hkind, fun _ => rfl, run_firstCells_some w _ _ _ _ _ [] (by simp) (fun j u h => by simp at h), run_firstCells_some w.drew _ _ _ _ _ [] (by simp) (fun j u h => by simp at h), by simp, fun _ h => by cases h⟩, Rvs_nil.2 rfl⟩

/-- a new row for what has grown -/
theorem grown_sound {t u ty e : TypeId} {i : TypeInfo} {Z : Value} (ht : P.underlying t = some (.slice e)) (hi : P.info? e = some i) (hZ : i.zero = some Z) (hzs : Z.cells.size = i.size) (hR : Rep P σ S w)
    {base : Option Addr} {sLen sCap n : Nat} {old new : List AV} {Olds News : List Value} (hO : Rvs P σ old Olds) (hO1 : ∀ u ∈ Olds, u.oneCell' = true) (hOl : Olds.length = sLen * i.size)
    (hold : (Builtin.firstCells i.size sLen (.slice base sLen sCap)).run P w.drew = .ok Olds.toArray w.drew) {X : Value} (hs : Src P i.size u X n News w) (hN : Rvs P σ new News)
    (hg : sCap < sLen + n) (h1 : sLen + n ≤ room) (h2 : (sLen + n) * i.bytes ≤ room) :
    ∃ V w' σ', (Builtin.append_ #[t, u] ty #[.slice base sLen sCap, X]).run P w = .ok V w' ∧ Rv P σ' (.sl S.nx 0 (sLen + n) (sLen + n) true) V ∧
      Ext P σ S w σ' ⟨S.h.set S.nx (some (.cells (appL old new) true i.size)), Nat.succ S.nx⟩ w' := by
  unfold room at h1 h2
  have hrun := run_append_grow_src w t u ty e i Z ht hi hZ base sLen sCap Olds hold X n News hs hg (by omega) (growslice_fits hg (by omega))
  have hge := grownCap_ge w (sLen + n) sCap e
  generalize hcap : grownCap w (sLen + n) sCap e = cap at hrun hge
  have hid := hR.fresh S.nx (Nat.le_refl _)
  refine ⟨_, _, upd σ S.nx ⟨w.heap.size, 0, cap - (sLen + n)⟩, hrun, ?_, ?_⟩
  · simp only [Rv]
    refine ⟨_, upd_same _ _, ?_⟩
    simp only [if_true, Nat.add_zero]
    congr 1
    omega
  · refine Ext.alloc hR (ob := .cells ((Olds ++ News).toArray ++ Builtin.zeroCells Z.cells (cap - (sLen + n))) e) rfl rfl rfl rfl ?_ trivial
    refine blk_push (C := Olds ++ News) (X := (Builtin.zeroCells Z.cells (cap - (sLen + n))).toList) (t := e) (fz := (0, 0)) ?_ (.inr rfl) ?_ ?_ (fun _ => ?_)
    · show w.heap.push _ = _
      congr 2
      apply Array.ext'
      simp
    · rw [appL_eq]
      exact (hO.append hN).mono (upd_mono hid)
    · intro u hu
      rcases List.mem_append.1 hu with hu | hu
      · exact hO1 u hu
      · exact hs.one u hu
    · simp [Builtin.zeroCells, hzs]
/-- WHATEVER IS APPENDED TO. -/
theorem append_sound {t u ty e : TypeId} {i : TypeInfo} {z : List AV} (he : elemOfT P t = some (e, i)) (hu : srcT P u i = true) (hz : zeroElemT P e i = some z) (hR : Rep P σ S w)
    {s x : AV} {Sv X : Value} (hs : Rv P σ s Sv) (hx : Rv P σ x X) {v : AV} {S' : St} (h : appendV i.bytes i.size s x S = some (v, S')) :
    ∃ V w' σ', (Builtin.append_ #[t, u] ty #[Sv, X]).run P w = .ok V w' ∧ Rv P σ' v V ∧ Ext P σ S w σ' S' w' := by
  obtain ⟨ht, hi⟩ := elemOfT_some he
  obtain ⟨Z, hZ, _, _, hzs, _⟩ := zeroElemT_some (σ := σ) hi hz
  obtain ⟨n, hn, hh⟩ := osel_eq_some h
  clear h
  obtain ⟨new, hnew, h⟩ := osel_eq_some hh
  clear hh
  obtain ⟨News, hsrc, hN⟩ := src_sound hu hR hx hn hnew
  have hnl := hsrc.newsLen
  have hnothing : n = 0 → Src P i.size u X 0 [] w := fun h0 => by
    subst h0
    have : News = [] := List.eq_nil_of_length_eq_zero (by simpa using hnl)
    subst this
    exact hsrc
  cases s <;> simp only [appV, reduceCtorEq] at h
  case nilsl =>
    simp only [Rv] at hs
    subst hs
    unfold appNil at h
    rw [bsel_eq] at h
    split at h
    · rename_i h0
      rw [Nat.beq_eq] at h0
      cases h
      exact ⟨_, w, σ, run_append_nothing w t u ty e i ht hi none 0 0 (Nat.le_refl _) X (hnothing h0), by simp only [Rv], Ext.refl hR⟩
    · rename_i h0
      rw [Nat.beq_eq] at h0
      obtain ⟨h1, h⟩ := bsel_some h
      obtain ⟨h2, h⟩ := bsel_some h
      cases h
      have h1 := Nat.le_of_ble_eq_true h1
      have h2 := Nat.le_of_ble_eq_true h2
      have := grown_sound (ty := ty) ht hi hZ hzs hR (base := none) (sLen := 0) (sCap := 0) (old := []) (Olds := []) (Rvs_nil.2 rfl) (by simp) (by simp) (run_firstCells_none w.drew _ _ _ _) hsrc hN (by omega) (by simpa using h1) (by simpa using h2)
      simpa [appL_eq] using this
  case emp =>
    simp only [Rv] at hs
    obtain ⟨A, c, rfl⟩ := hs
    obtain ⟨h0, h⟩ := bsel_some h
    rw [Nat.beq_eq] at h0
    cases h
    exact ⟨_, w, σ, run_append_nothing w t u ty e i ht hi (some A) 0 c (Nat.zero_le _) X (hnothing h0), by simp only [Rv]; exact ⟨A, c, rfl⟩, Ext.refl hR⟩
  case sl b off len cap o =>
    have hs' := hs
    simp only [Rv] at hs
    obtain ⟨L, hL, rfl⟩ := hs
    unfold appSl at h
    rw [bsel_eq] at h
    split at h
    · rename_i hfit
      have hfit := Nat.le_of_ble_eq_true hfit
      have hcap : len + n ≤ if o = true then cap + L.e else cap := by split <;> omega
      rw [bsel_eq] at h
      split at h
      · rename_i h0
        rw [Nat.beq_eq] at h0
        cases h
        exact ⟨_, w, σ, run_append_nothing w t u ty e i ht hi _ len _ (by omega) X (hnothing h0), hs', Ext.refl hR⟩
      · obtain ⟨S1, hst, h⟩ := osel_eq_some h
        cases h
        obtain ⟨L', hL', hth, hext⟩ := store_sound hR hN hsrc.one hst
        rw [hL] at hL'; cases hL'
        have hrun := run_append_room_src w t u ty e i ht hi L.r (L.d + off) len (if o = true then cap + L.e else cap) X n News hsrc hcap
          (fun j hj => by have := (hth j hj).1; rwa [show L.d + off + len * i.size = L.d + (off + len * i.size) by omega])
          (fun j hj => by have := (hth j hj).2; rwa [show L.d + off + len * i.size = L.d + (off + len * i.size) by omega])
        refine ⟨_, _, σ, hrun, by simp only [Rv]; exact ⟨L, hL, rfl⟩, ?_⟩
        rw [show L.d + off + len * i.size = L.d + (off + len * i.size) by omega]
        exact hext
    · rename_i hfit
      rw [Nat.ble_eq] at hfit
      obtain ⟨h1, h⟩ := bsel_some h
      obtain ⟨h2, h⟩ := bsel_some h
      obtain ⟨bl, hb, h⟩ := osel_eq_some h
      have h1 := Nat.le_of_ble_eq_true h1
      have h2 := Nat.le_of_ble_eq_true h2
      obtain ⟨L', hL', hLr, hblk⟩ := hR.blk b bl hb
      rw [hL] at hL'; cases hL'
      -- what stands in the slice
      have hold : ∀ (cs : List AV) (Cs : List Value), Rvs P σ cs Cs → (∀ u ∈ Cs, u.oneCell' = true) → w.rangeAt L.r L.d Cs → ∀ old, cut cs off (len * i.size) = some old →
          ∃ Olds, Rvs P σ old Olds ∧ (∀ u ∈ Olds, u.oneCell' = true) ∧ Olds.length = len * i.size ∧ w.rangeAt L.r (L.d + off) Olds ∧ Olds = (Cs.drop off).take (len * i.size) ∧
            ∀ c, (Builtin.firstCells i.size len (.slice (some ⟨L.r, L.d + off, none⟩) len c)).run P w.drew = .ok Olds.toArray w.drew := by
        intro cs Cs hC hC1 hC2 old hcut
        have hc := hC.cut hcut
        have hr := range_cut (i := off) (n := len * i.size) hC2
        exact ⟨_, hc.1, fun u hu => hC1 u (List.mem_of_mem_drop (List.mem_of_mem_take hu)), hc.2, hr, rfl, fun c => run_firstCells_some w.drew _ _ _ _ _ _ hc.2 (fun j u hu => by
          rw [Addr.add_mid]
          simpa using hr j u hu)⟩
      cases bl <;> simp only [growB, reduceCtorEq] at h
      · rename_i cs o' sz
        obtain ⟨Cs, hC, hC1, hC2, hC3⟩ := hblk
        obtain ⟨old, hcut, h⟩ := osel_eq_some h
        obtain ⟨Olds, hO, hO1, hOl, hO2, hOe, hOf⟩ := hold cs Cs hC hC1 hC2 old hcut
        cases o with
        | false =>
          rw [bsel_false] at h
          cases h
          simp only [Bool.false_eq_true, if_false]
          exact grown_sound ht hi hZ hzs hR hO hO1 hOl (hOf cap) hsrc hN (by omega) h1 h2
        | true =>
          rw [bsel_true] at h
          obtain ⟨ho', g1⟩ := bsel_some h
          obtain ⟨hsz, g2⟩ := bsel_some g1
          obtain ⟨hend, g3⟩ := bsel_some g2
          clear h g1 g2
          subst ho'
          rw [Nat.beq_eq] at hsz hend
          rw [lenL_eq] at hend
          subst hsz
          cases g3
          simp only [if_true]
          have hCl := hC.length
          by_cases hin : len + n ≤ cap + L.e
          · -- in place
            have hthere : ∀ j, j < News.length → (w.cell? ⟨L.r, L.d + off + len * i.size + j, none⟩).isSome = true ∧ w.frozen? ⟨L.r, L.d + off + len * i.size + j, none⟩ = false := by
              intro j hj
              have hb1 : off + len * i.size + j < Cs.length + L.e * i.size := by
                have e1 : (len + n) * i.size ≤ (cap + L.e) * i.size := Nat.mul_le_mul_right _ hin
                rw [Nat.add_mul, Nat.add_mul] at e1
                omega
              have := hC3 (off + len * i.size + j) (by simpa using hb1)
              rwa [show L.d + (off + len * i.size + j) = L.d + off + len * i.size + j by omega] at this
            have hrun := run_append_room_src w t u ty e i ht hi L.r (L.d + off) len (cap + L.e) X n News hsrc hin (fun j hj => (hthere j hj).1) (fun j hj => (hthere j hj).2)
            have hid := hR.fresh S.nx (Nat.le_refl _)
            refine ⟨_, _, upd σ S.nx ⟨L.r, L.d + off, cap + L.e - (len + n)⟩, hrun, ?_, ?_⟩
            · simp only [Rv]
              refine ⟨_, upd_same _ _, ?_⟩
              simp only [if_true, Nat.add_zero]
              congr 1
              omega
            · obtain ⟨e1, e2, e3⟩ := os_setCells L.r News (L.d + off + len * i.size) w
              refine Ext.rename hR hb trivial trivial hL rfl (fun r hr => heap_setCells_other L.r News _ w r hr) (size_setCells L.r News _ w) e1 e2 e3 ?_
              refine ⟨Olds ++ News, ?_, ?_, fun j v hv => ?_, fun j hj => ?_⟩
              · rw [appL_eq]; exact (hO.append hN).mono (upd_mono hid)
              · intro u hu
                rcases List.mem_append.1 hu with hu | hu
                · exact hO1 u hu
                · exact hsrc.one u hu
              · by_cases hj : j < Olds.length
                · rw [List.getElem?_append_left hj] at hv
                  rw [World.cell?_setCells_out L.r News _ w _ (fun _ _ => .inl (by simp only; omega))]
                  exact hO2 j v hv
                · rw [List.getElem?_append_right (by omega)] at hv
                  have hj2 := (List.getElem?_eq_some_iff.1 hv).1
                  have := World.cell?_setCells_in L.r News (L.d + off + len * i.size) w (fun k hk => (hthere k hk).1) (j - Olds.length) hj2
                  rw [show L.d + off + len * i.size + (j - Olds.length) = L.d + off + j by omega] at this
                  simp only
                  rw [this]
                  rw [List.getElem?_eq_getElem hj2] at hv
                  exact hv
              · have e4 : (len + n) * i.size + (cap + L.e - (len + n)) * i.size = (cap + L.e) * i.size := by rw [← Nat.add_mul]; congr 1; omega
                have e5 : (len + n) * i.size = len * i.size + n * i.size := Nat.add_mul _ _ _
                have e6 : (cap + L.e) * i.size = cap * i.size + L.e * i.size := Nat.add_mul _ _ _
                simp only [List.length_append, if_true] at hj
                have := hC3 (off + j) (by simp only [if_true]; omega)
                rw [← Nat.add_assoc] at this
                exact ⟨World.isSome_setCells L.r News _ w _ this.1, by rw [World.frozen?_setCells]; exact this.2⟩
          · -- a new row; the old name is given up
            have hdrop := Ext.drop hR b
            obtain ⟨V, w', σ', h5, h6, h7⟩ := grown_sound (S := ⟨S.h.set b none, S.nx⟩) (ty := ty) ht hi hZ hzs hdrop.rep hO hO1 hOl (hOf (cap + L.e)) hsrc hN (by omega) h1 h2
            exact ⟨V, w', σ', h5, h6, hdrop.trans h7⟩
      · rename_i cs
        obtain ⟨Cs, hC, hC1, hC2⟩ := hblk
        cases o with
        | true => simp [bsel_true] at h
        | false =>
          rw [bsel_false] at h
          obtain ⟨old, hcut, h⟩ := osel_eq_some h
          obtain ⟨Olds, hO, hO1, hOl, hO2, hOe, hOf⟩ := hold cs Cs hC hC1 hC2 old hcut
          cases h
          simp only [Bool.false_eq_true, if_false]
          exact grown_sound ht hi hZ hzs hR hO hO1 hOl (hOf cap) hsrc hN (by omega) h1 h2

/-! ## copy -/
theorem copy_sound {t u ty e : TypeId} {i : TypeInfo} (he : elemOfT P t = some (e, i)) (hR : Rep P σ S w) {d x : AV} {Dv X : Value} (hd : Rv P σ d Dv) (hx : Rv P σ x X) {v : AV} {S' : St} (h : osel (lenOfS x) (fun m => copyV d i.size m x S) = some (v, S')) :
    ∃ V w', (Builtin.copy_ #[t, u] ty #[Dv, X]).run P w = .ok V w' ∧ Rv P σ v V ∧ Ext P σ S w σ S' w' := by
  obtain ⟨ht, hi⟩ := elemOfT_some he
  obtain ⟨m, hm, hh⟩ := osel_eq_some h
  clear h
  have h := hh
  clear hh
  have hX : ∃ base c, X = .slice base m c := by
    cases x <;> simp only [lenOfS, reduceCtorEq, Option.some.injEq] at hm <;> simp only [Rv] at hx
    · obtain ⟨L, hL, rfl⟩ := hx
      subst hm
      exact ⟨_, _, rfl⟩
    · subst hx hm
      exact ⟨_, _, rfl⟩
    · obtain ⟨A, c, rfl⟩ := hx
      subst hm
      exact ⟨_, _, rfl⟩
  have h0 : ∀ a : Addr, (loadCells a 0).run P w = .ok #[] w := fun a => by simpa using run_loadCells_list (P := P) w a [] (by simp)
  have nothing : ∀ {base dl dc}, Dv = .slice base dl dc → Nat.min m dl = 0 → (Builtin.copy_ #[t, u] ty #[Dv, X]).run P w = .ok (goInt 0) w := by
    rintro base dl dc rfl h1
    obtain ⟨bs, c, rfl⟩ := hX
    cases base <;> cases bs <;> simp [Builtin.copy_, run_underlying ht, Builtin.lenOf, Builtin.firstCells, sizeOf, typeInfo, hi, h1, storeCells, h0]
  cases d <;> simp only [copyV, reduceCtorEq] at h <;> simp only [Rv] at hd
  · obtain ⟨L, hL, rfl⟩ := hd
    rename_i b off len cap o
    obtain ⟨n, hn⟩ : ∃ n, n = Nat.min m len := ⟨_, rfl⟩
    have e1 : bsel (Nat.ble m len) m len = n := by
      rw [hn, bsel_eq]
      split
      · rename_i h1
        rw [Nat.ble_eq] at h1
        exact (Nat.min_eq_left h1).symm
      · rename_i h1
        rw [Nat.ble_eq] at h1
        exact (Nat.min_eq_right (by omega)).symm
    rw [e1, bsel_eq] at h
    split at h
    · rename_i h1
      rw [Nat.beq_eq] at h1
      cases h
      exact ⟨_, w, nothing rfl (by rw [← hn]; exact h1), by simp only [Rv]; rfl, Ext.refl hR⟩
    · rename_i h1
      rw [Nat.beq_eq] at h1
      obtain ⟨cs, hcs, h⟩ := osel_eq_some h
      obtain ⟨S1, hst, h⟩ := osel_eq_some h
      cases h
      have hsrc : ∃ News, Rvs P σ cs News ∧ (∀ u ∈ News, u.oneCell' = true) ∧ (Builtin.firstCells i.size n X).run P w = .ok News.toArray w := by
        cases x <;> simp only [lenOfS, reduceCtorEq, Option.some.injEq] at hm <;> simp only [Rv] at hx <;> simp only [srcCells] at hcs
        · obtain ⟨Lx, hLx, rfl⟩ := hx
          obtain ⟨L', Cs, hL', h3, h4, h5, h6⟩ := loadN_some hR hcs
          rw [hLx] at hL'; cases hL'
          exact ⟨Cs, h3, h5, run_firstCells_some w _ _ _ _ _ Cs h4 fun j u hu => by rw [Addr.add_mid]; exact h6 j u hu⟩
        · obtain ⟨h2, _⟩ := bsel_some hcs
          rw [Nat.beq_eq] at h2
          exact absurd h2 h1
        · obtain ⟨h2, _⟩ := bsel_some hcs
          rw [Nat.beq_eq] at h2
          exact absurd h2 h1
      obtain ⟨News, hN, hN1, hload⟩ := hsrc
      obtain ⟨L', hL', hth, hext⟩ := store_sound hR hN hN1 hst
      rw [hL] at hL'; cases hL'
      have hrun := run_storeCells_cells (P := P) L.r (L.d + off) News 0 w (fun j hj => by simpa using (hth j hj).1) (fun j hj => by simpa using (hth j hj).2) hN1
      simp only [Nat.add_zero] at hrun
      obtain ⟨bs, c, rfl⟩ := hX
      refine ⟨goInt n, _, ?_, by simp only [Rv]; rfl, hext⟩
      have hlen : (Builtin.lenOf (.slice bs m c)).run P w = .ok m w := by simp [Builtin.lenOf]
      rw [hn] at hload ⊢
      simp [Builtin.copy_, run_underlying ht, hlen, sizeOf, typeInfo, hi, hload, hrun]
  · subst hd
    cases h
    exact ⟨_, w, nothing rfl (Nat.min_eq_right (Nat.zero_le _)), by simp only [Rv]; rfl, Ext.refl hR⟩
  · obtain ⟨A, c, rfl⟩ := hd
    cases h
    exact ⟨_, w, nothing rfl (Nat.min_eq_right (Nat.zero_le _)), by simp only [Rv]; rfl, Ext.refl hR⟩
end Go.Ev

namespace Go.Ev
variable {P : Program} {σ : Env} {S : St} {w : World}

/-! ## maps that are written -/
theorem MapR.append : ∀ {m : List (AV × AV)} {es : List MapEntry} {k v : AV} {e : MapEntry}, MapR P σ m es → Rv P σ k e.key → Rv P σ v e.val → MapR P σ (m ++ [(k, v)]) (es ++ [e])
  | [], es, k, v, e, h, h1, h2 => by have h : es = [] := h; subst h; exact ⟨e, [], rfl, h1, h2, rfl⟩
  | (k', v') :: m, es, k, v, e, h, h1, h2 => by
    obtain ⟨x, es', rfl, h3, h4, h5⟩ := h
    exact ⟨x, es' ++ [e], rfl, h3, h4, MapR.append h5 h1 h2⟩
theorem MapR.modify : ∀ {m : List (AV × AV)} {es : List MapEntry} {k v : AV} {K V : Value} (i : Nat), MapR P σ m es → Rv P σ k K → Rv P σ v V →
    MapR P σ (modifyAt (fun _ => (k, v)) m i) (es.modify i fun e => { e with key := K, val := V })
  | [], es, k, v, K, V, i, h, _, _ => by have h : es = [] := h; subst h; simp [modifyAt]; rfl
  | (k', v') :: m, es, k, v, K, V, i, h, h1, h2 => by
    obtain ⟨x, es', rfl, h3, h4, h5⟩ := h
    simp only [modifyAt, bsel_eq]
    cases i with
    | zero => exact ⟨{ x with key := K, val := V }, es', by simp, h1, h2, h5⟩
    | succ i =>
      rw [if_neg (by simp)]
      exact ⟨x, es'.modify i (fun e => { e with key := K, val := V }), by simp, h3, h4, by simpa using MapR.modify i h5 h1 h2⟩

/-- a key that was found is, bit by bit, the one that was asked for -/
def BitsSound (P : Program) : Prop := ∀ (σ : Env) (kt : TypeId) (e : EqT) (k k' : AV) (K K' : Value), keyT P kt = some e → Rv P σ k K → Rv P σ k' K' → eqv e k k' = some true → Instr.sameBits 10000 K' K = true

theorem findK_at : ∀ {e : EqT} {k : AV} {m : List (AV × AV)} {i j : Nat} {v : AV}, findK e k m i = some (some (j, v)) → i ≤ j ∧ ∃ k', m[j - i]? = some (k', v) ∧ eqv e k k' = some true
  | e, k, [], i, j, v, h => by simp [findK] at h
  | e, k, (k', v') :: m, i, j, v, h => by
    simp only [findK] at h
    obtain ⟨b, h1, h⟩ := osel_eq_some h
    cases b
    · rw [bsel_false] at h
      obtain ⟨h2, k2, h3, h4⟩ := findK_at h
      refine ⟨by omega, k2, ?_, h4⟩
      rw [show j - i = (j - Nat.succ i) + 1 by omega]
      simpa using h3
    · rw [bsel_true] at h
      cases h
      exact ⟨Nat.le_refl _, k', by simp, h1⟩
theorem MapR.get : ∀ {m : List (AV × AV)} {es : List MapEntry} {i : Nat} {k v : AV}, MapR P σ m es → m[i]? = some (k, v) → ∃ e, es[i]? = some e ∧ Rv P σ k e.key ∧ Rv P σ v e.val
  | [], es, i, k, v, h, h1 => by simp at h1
  | (k', v') :: m, es, i, k, v, h, h1 => by
    obtain ⟨x, es', rfl, h3, h4, h5⟩ := h
    cases i with
    | zero => simp at h1; obtain ⟨rfl, rfl⟩ := h1; exact ⟨x, by simp, h3, h4⟩
    | succ i => simp at h1; obtain ⟨e, h6, h7⟩ := MapR.get h5 h1; exact ⟨e, by simpa using h6, h7⟩

theorem run_setObj {r : Nat} {ob old : Obj} (h : w.heap[r]? = some old) (hc : ∀ c e f, old ≠ .cells c e f) : (setObj r ob).run P w = .ok () { w with heap := w.heap.setIfInBounds r ob } := by
  simp only [setObj, Sem.run, h]
theorem run_getObj {r : Nat} {ob : Obj} (h : w.heap[r]? = some ob) (hc : ∀ c e f, ob ≠ .cells c e f) : (getObj r).run P w = .ok ob w := by
  simp only [getObj, Sem.run, h]

theorem mapUpd_sound (hA : Asked P) (hB : BitsSound P) {t kt et : TypeId} {e : EqT} (ht : P.underlying t = some (.map kt et)) (hkt : keyT P kt = some e) (hR : Rep P σ S w) {m k x : AV} {M K X : Value} (hm : Rv P σ m M) (hk : Rv P σ k K) (hx : Rv P σ x X)
    {v : AV} {S' : St} (h : mapUpdV m e k x S = some (v, S')) : v = .undef ∧ ∃ w', (Instr.mapUpdate t M K X).run P w = .ok () w' ∧ Ext P σ S w σ S' w' := by
  cases m <;> simp only [mapUpdV, reduceCtorEq] at h
  rename_i b
  obtain ⟨es, h1, h⟩ := osel_eq_some h
  obtain ⟨bl, hb, h1⟩ := osel_eq_some h1
  obtain ⟨r, h2, h⟩ := osel_eq_some h
  cases h
  refine ⟨rfl, ?_⟩
  obtain ⟨hself, hf⟩ := findKK_some h2
  cases bl <;> simp only [mapOfB, reduceCtorEq, Option.some.injEq] at h1
  rename_i es0
  have h1 := h1.symm
  subst h1
  obtain ⟨L, hL, hlt, ms, c, h3, h4⟩ := hR.blk b _ hb
  simp only [Rv] at hm
  obtain ⟨L', hL', rfl⟩ := hm
  rw [hL] at hL'; cases hL'
  obtain ⟨R, h5, h6⟩ := findKey_sound (w := w) hA.eq hkt hk h4 hf
  have hck := hA.key σ w kt e k K false hkt hk hself
  have hg := run_getObj (P := P) h3 (by simp)
  have key : ∀ ob, BlkRep P σ { w with heap := w.heap.setIfInBounds L.r ob } L (.map (mapPut r es k x)) →
      Ext P σ S w σ ⟨S.h.set b (some (.map (mapPut r es k x))), S.nx⟩ { w with heap := w.heap.setIfInBounds L.r ob } := fun ob hbl =>
    Ext.write hR hb trivial trivial hL (fun r hr => by simp [Array.getElem?_setIfInBounds_ne (Ne.symm hr)]) (by simp) rfl rfl rfl hbl
  have hat : ∀ ob, (w.heap.setIfInBounds L.r ob)[L.r]? = some ob := fun ob => by
    rw [Array.getElem?_setIfInBounds_self_of_lt hlt]
  cases r with
  | none =>
    cases R with
    | some _ => exact h6.elim
    | none =>
      refine ⟨_, ?_, key (.map (ms.push { key := K, val := X, born := c }) (c + 1)) ?_⟩
      · simp only [Instr.mapUpdate, Sem.run_bind, run_underlying ht, Result.andThen_ok, hg, hck, h5]
        rw [run_setObj h3 (by simp)]
      · refine ⟨_, _, hat _, ?_⟩
        simp only [mapPut, appL_eq, Array.toList_push]
        exact h4.append hk hx
  | some jv =>
    obtain ⟨j, v0⟩ := jv
    cases R with
    | none => exact h6.elim
    | some jV =>
      obtain ⟨j', V0⟩ := jV
      obtain ⟨rfl, _⟩ := h6
      obtain ⟨_, k', hk1, hk2⟩ := findK_at hf
      simp only [Nat.sub_zero] at hk1
      obtain ⟨en, he1, he2, _⟩ := h4.get hk1
      have hbits := hB σ kt e k k' K en.key hkt hk he2 hk2
      refine ⟨_, ?_, key (.map (ms.modify j fun e => { e with key := K, val := X }) c) ?_⟩
      · have hms : ms[j]? = some en := by rw [← Array.getElem?_toList]; exact he1
        simp only [Instr.mapUpdate, Sem.run_bind, run_underlying ht, Result.andThen_ok, hg, hck, h5, hms, Option.map_some, Option.getD_some, Instr.keyThatStays, hbits, if_true, Sem.run_pure]
        rw [run_setObj h3 (by simp)]
      · refine ⟨_, _, hat _, ?_⟩
        simp only [mapPut]
        rw [Array.toList_modify]
        exact h4.modify j hk hx

/-! ## One operation -/
/-- what is asked of an operation's outcome: the value and the world -/
def NextIn (P : Program) (R : Value → World → Prop) : Result Next → Prop
  | .ok (.value v) w' => R v w'
  | .ok .skip w' => R undef w'
  | .ok (.enter f args) w' => CallsIn Fence.wide 0 P f args w' fun
      | .returned v, w'' => R v w''
      | _, _ => False
  | .ok (.round l f tmps assign body) w' => RoundIn Fence.wide 0 P l f tmps assign body w' fun
      | .returned v, w'' => R v w''
      | _, _ => False
  | _ => False

/-- what is asked of calls -/
def CallSpec (P : Program) (call : CallF) : Prop := ∀ (f : AV) (args : List AV) (S : St) (v : AV) (S' : St), call f args S = some (v, S') → ∀ (σ : Env) (w : World) (fv : Value) (Args : List Value),
  Rv P σ f fv → Rvs P σ args Args → Rep P σ S w → NextIn P (fun V w' => ∃ σ', Rv P σ' v V ∧ Ext P σ S w σ' S' w') ((do let d ← Deferred.ofValue fv ⟨Args⟩; invoke d.target d.args : Sem Next).run P w)

theorem st_sound {t : TypeId} {agg : Bool} {n : Nat} (ht : aggT P t = some (agg, n)) (hR : Rep P σ S w) {x y : AV} {X Y : Value} (hx : Rv P σ x X) (hy : Rv P σ y Y) {cs : List AV} (hcs : y.cells = some cs) {v : AV} {S' : St}
    (h : xStV x n cs S = some (v, S')) : v = .undef ∧ ∃ w', (Instr.storeAt t X Y).run P w = .ok () w' ∧ Ext P σ S w σ S' w' := by
  obtain ⟨d, i, hu, hi, hn, hd⟩ := aggT_some ht
  cases x <;> simp only [xStV, reduceCtorEq] at h
  obtain ⟨hl, h⟩ := bsel_some h
  obtain ⟨S1, hst, h⟩ := osel_eq_some h
  cases h
  refine ⟨rfl, ?_⟩
  simp only [Rv] at hx
  obtain ⟨L, hL, rfl⟩ := hx
  obtain ⟨hc1, hc2⟩ := Rv_cells hy hcs
  obtain ⟨L', hL', hth, hext⟩ := store_sound hR hc1 hc2 hst
  rw [hL] at hL'; cases hL'
  rw [lenL_eq, Nat.beq_eq] at hl
  refine ⟨_, ?_, hext⟩
  have hsz : Y.cells.size = i.size := by have := hc1.length; simp at this; omega
  have hrun := run_storeCells_cells (P := P) L.r (L.d + _) Y.cells.toList 0 w (fun j hj => by simpa using (hth j hj).1) (fun j hj => by simpa using (hth j hj).2) hc2
  simp only [Nat.add_zero] at hrun
  simp [Instr.storeAt, Instr.sureAddr, storeVar, sizeOf, typeInfo, hi, hsz, hrun]

/-! ### methods of interface values -/
theorem methodRow_fst {n : String} {t : Nat} {i : TypeInfo} {r : Nat × Nat × Option (Bool × Nat)} (h : methodRow P n t i = some r) : r.1 = t := by
  unfold methodRow at h
  split at h
  · rw [Bool.cond_eq_ite] at h
    split at h
    · cases h
    · split at h
      · cases h
      · split at h
        · cases h; rfl
        · obtain ⟨a, _, rfl⟩ := Option.map_eq_some_iff.1 h; rfl
        · cases h
        · cases h; rfl
        · cases h
  · cases h

theorem methodTable_find {n : String} : ∀ {is : List TypeInfo} {k t : Nat} {r : Nat × Option (Bool × Nat)}, findM t (methodTable P n is k) = some r → k ≤ t ∧ ∃ i, is[t - k]? = some i ∧ methodRow P n t i = some (t, r)
  | [], k, t, r, h => by simp [methodTable, findM] at h
  | i :: is, k, t, r, h => by
    simp only [methodTable] at h
    have next : findM t (methodTable P n is (k + 1)) = some r → k ≤ t ∧ ∃ j, (i :: is)[t - k]? = some j ∧ methodRow P n t j = some (t, r) := fun h => by
      obtain ⟨h1, j, h2, h3⟩ := methodTable_find h
      refine ⟨by omega, j, ?_, h3⟩
      rw [show t - k = (t - (k + 1)) + 1 by omega]
      simpa using h2
    split at h
    · rename_i x hx
      have hf := methodRow_fst hx
      obtain ⟨u, a⟩ := x
      simp only at hf
      subst hf
      simp only [findM, bsel_eq] at h
      split at h
      · rename_i he
        rw [Nat.beq_eq] at he
        subst he
        cases h
        exact ⟨Nat.le_refl _, i, by simp, hx⟩
      · exact next h
    · exact next h


theorem next_call {f : Nat} {R : Value} {Args : List Value} : ((do let d ← Deferred.ofValue (.func (.func f) ⟨[R]⟩ ⟨[]⟩) ⟨Args⟩; invoke d.target d.args : Sem Next)).run P w = (callFunc f (#[R] ++ ⟨Args⟩)).run P w := by
  simp [Deferred.ofValue, invoke]

theorem inv_sound {call : CallF} (hcall : CallSpec P call) {name : String} {r : AV} {R : Value} {args : List AV} {Args : List Value} (hr : Rv P σ r R) (hargs : Rvs P σ args Args) (hR : Rep P σ S w) {v : AV} {S' : St}
    (h : invV r (methodTable P name P.types.toList 0) args call S = some (v, S')) : NextIn P (fun V w' => ∃ σ', Rv P σ' v V ∧ Ext P σ S w σ' S' w') ((callMethod R name ⟨Args⟩).run P w) := by
  cases r <;> simp only [invV, reduceCtorEq] at h
  rename_i t x
  simp only [Rv] at hr
  obtain ⟨W, rfl, hx⟩ := hr
  obtain ⟨row, hrow0, h⟩ := osel_eq_some h
  obtain ⟨_, i, hi, hrow⟩ := methodTable_find hrow0
  have hlt : t < P.types.size := by
    have := (List.getElem?_eq_some_iff.1 hi).1
    simpa using this
  have hinfo : P.info? t = some i := by
    unfold Tables.info?
    rw [if_pos hlt]
    simpa using hi
  have hty : ∀ w : World, (typeInfo t).run P w = .ok i w := fun w => by simp [typeInfo, hinfo]
  have key : ∀ (f : Nat) (RV : Value) (rv : AV), (method (P.types.size + Made.depth) t W name).run P w = .ok (f, RV) w → Rv P σ rv RV → call (.fn f [rv] []) args S = some (v, S') →
      NextIn P (fun V w' => ∃ σ', Rv P σ' v V ∧ Ext P σ S w σ' S' w') ((callMethod (.iface t W) name ⟨Args⟩).run P w) := by
    intro f RV rv hm hrv hc
    have := hcall _ _ _ _ _ hc σ w (.func (.func f) ⟨[RV]⟩ ⟨[]⟩) Args (by simp only [Rv]; exact ⟨_, _, rfl, Rvs_cons.2 ⟨_, _, rfl, hrv, Rvs_nil.2 rfl⟩, Rvs_nil.2 rfl⟩) hargs hR
    rw [next_call] at this
    simp only [callMethod, Sem.run_bind, run_program, Result.andThen_ok, hm]
    exact this
  obtain ⟨fuel, hdep⟩ : ∃ fuel, P.types.size + Made.depth = fuel + 1 := ⟨P.types.size + 99, rfl⟩
  rw [hdep] at key
  unfold methodRow at hrow
  split at hrow
  · rename_i m hm
    rw [Bool.cond_eq_ite] at hrow
    split at hrow
    · cases hrow
    · rename_i hp
      have hp : m.path.toList = [] := by simpa using hp
      split at hrow
      · cases hrow
      · rename_i f ptr hf
        have hmeth : ∀ (RV : Value), (receiverAt t (.val W) ptr (if m.path.isEmpty then some ((name.splitOn ".").getLastD name) else none)).run P w = .ok RV w → (method (fuel + 1) t W name).run P w = .ok (f, RV) w := fun RV hrec => by
          simp only [method, Sem.run_bind, hty, Result.andThen_ok, hm, hp, follow, Sem.run_pure, hf, hrec]
        split at hrow
        · rename_i b0 e hu
          cases hrow
          refine key f W x (hmeth W ?_) hx h
          simp only [receiverAt, Sem.run_bind, run_underlying hu, Result.andThen_ok, Place.get, Sem.run_pure]
        · rename_i b0 e hu
          obtain ⟨⟨agg, n⟩, ha, hra⟩ := Option.map_eq_some_iff.1 hrow
          cases hra
          have h : invPtr x f agg n args call S = some (v, S') := h
          cases x <;> simp only [invPtr, reduceCtorEq] at h
          rename_i b off
          obtain ⟨rv, h1, h2⟩ := osel_eq_some h
          simp only [Rv] at hx
          obtain ⟨L, hL, rfl⟩ := hx
          obtain ⟨L', RV, hL', h3, h4⟩ := loadV_sound ha hR h1
          rw [hL] at hL'; cases hL'
          refine key f RV rv (hmeth RV ?_) h4 h2
          have hpe : m.path.isEmpty = true := by simpa using hp
          have hnil : ∀ (ad : Addr) (nm : String), (Builtin.ssaWrapNilChk_ #[t] t #[.pointer (some ad), strVal "", strVal nm]).run P w = .ok (.pointer (some ad)) w := fun _ _ => by rfl
          simp only [receiverAt, Sem.run_bind, run_underlying hu, Result.andThen_ok, Place.get, Sem.run_pure, hpe, if_true, hnil, asAddr, h3]
        · cases hrow
        · rename_i b0 d hnp hni hu
          cases hrow
          refine key f W x (hmeth W ?_) hx h
          simp only [receiverAt, Sem.run_bind, run_underlying hu, Result.andThen_ok]
          cases d <;> first | rfl | exact (hnp _ rfl).elim
        · cases hrow
  · cases hrow

/-! ### zeros -/
theorem clr_sound {t e ty : TypeId} {i : TypeInfo} {z : List AV} (he : elemOfT P t = some (e, i)) (hz : zeroElemT P e i = some z) (hR : Rep P σ S w) {x : AV} {X : Value} (hx : Rv P σ x X) {v : AV} {S' : St} (h : clrV x z S = some (v, S')) :
    v = .undef ∧ ∃ w', (Builtin.clear_ #[t] ty #[X]).run P w = .ok (.tuple #[]) w' ∧ Ext P σ S w σ S' w' := by
  obtain ⟨hu, hi⟩ := elemOfT_some he
  obtain ⟨Z, hZ, hz1, hz2, hz3, hz4⟩ := zeroElemT_some (σ := σ) hi hz
  cases x <;> simp only [clrV, reduceCtorEq] at h <;> simp only [Rv] at hx
  · obtain ⟨L, hL, rfl⟩ := hx
    rename_i b off n cap o
    rw [bsel_eq] at h
    split at h
    · rename_i hn
      rw [Nat.beq_eq] at hn
      subst hn
      cases h
      exact ⟨rfl, w, by simp [Builtin.clear_, run_underlying hu], Ext.refl hR⟩
    · rename_i hn
      rw [Nat.beq_eq] at hn
      obtain ⟨S1, hst, h⟩ := osel_eq_some h
      cases h
      obtain ⟨L', hL', hth, hext⟩ := store_sound hR (repeat_Rvs hz1 n) (repeat_one hz2 n) hst
      rw [hL] at hL'; cases hL'
      refine ⟨rfl, _, ?_, hext⟩
      have hrun := run_storeCells_cells (P := P) L.r (L.d + off) (repeatL Z.cells.toList n) 0 w (fun j hj => by simpa using (hth j hj).1) (fun j hj => by simpa using (hth j hj).2) (repeat_one hz2 n)
      simp only [Nat.add_zero] at hrun
      have hzc : (Builtin.zeroCells Z.cells n).toList = repeatL Z.cells.toList n := by
        rw [← range_zero_cells Z.cells.toList n]
        unfold Builtin.zeroCells
        rw [Array.toList_map, Array.toList_range]
        simp only [Array.length_toList]
        apply List.map_congr_left
        intro a _
        cases Z.cells
        simp
      obtain ⟨k, rfl⟩ : ∃ k, n = k + 1 := ⟨n - 1, by omega⟩
      simp [Builtin.clear_, run_underlying hu, zeroValue, typeInfo, hi, hZ, hzc, hrun]
  · subst hx
    cases h
    exact ⟨rfl, w, by simp [Builtin.clear_, run_underlying hu], Ext.refl hR⟩
  · obtain ⟨A, c, rfl⟩ := hx
    cases h
    exact ⟨rfl, w, by simp [Builtin.clear_, run_underlying hu], Ext.refl hR⟩

/-! ### functions without a body -/
theorem find_row {fn : Func} {n : String} {e : Array Value → Sem Value} (h : fn.name = n) (h1 : Extern.allGenericRows.lookup n = none) (h2 : Extern.allTypedRows.lookup n = none) (h3 : Extern.allRows.lookup n = some e) : Extern.find fn = some e := by
  unfold Extern.find
  simp only [h, h1, h2, h3, Option.map_none]
  rfl
theorem findNext_row {fn : Func} {n : String} (h : fn.name = n) (h1 : Extern.allNextRows.lookup n = none) (ho : Extern.allNextRows.lookup fn.origin = none) : Extern.findNext fn = none := by
  unfold Extern.findNext
  simp only [h, h1, ho, Option.map_none]
  rfl

theorem add64_row : Extern.allRows.lookup "math/bits.Add64" = some add64Entry := by kernel_rfl
theorem add64_row1 : Extern.allGenericRows.lookup "math/bits.Add64" = none := by kernel_rfl
theorem add64_row2 : Extern.allTypedRows.lookup "math/bits.Add64" = none := by kernel_rfl
theorem add64_row3 : Extern.allNextRows.lookup "math/bits.Add64" = none := by kernel_rfl
theorem idx_row : Extern.allRows.lookup "internal/bytealg.IndexByteString" = some Extern.BytealgIndexByte.indexByte := by kernel_rfl
theorem idx_row1 : Extern.allGenericRows.lookup "internal/bytealg.IndexByteString" = none := by kernel_rfl
theorem idx_row2 : Extern.allTypedRows.lookup "internal/bytealg.IndexByteString" = none := by kernel_rfl
theorem idx_row3 : Extern.allNextRows.lookup "internal/bytealg.IndexByteString" = none := by kernel_rfl

theorem extOf_some {f : Operand} {k : ExtK} (h : extOf P f = some k) : ∃ id fn, f = .func id ∧ P.funcs[id]? = some fn ∧ fn.body.isNone = true ∧ Extern.allNextRows.lookup fn.origin = none ∧
    ((fn.name = "math/bits.Add64" ∧ k = .add64) ∨ (fn.name = "internal/bytealg.IndexByteString" ∧ k = .idxByte)) := by
  unfold extOf at h
  split at h
  · rename_i id
    split at h
    · rename_i fn hfn
      rw [Bool.cond_eq_ite] at h
      split at h
      · rename_i hc
        rw [Bool.and_eq_true, Option.isNone_iff_eq_none (o := Extern.allNextRows.lookup fn.origin)] at hc
        refine ⟨id, fn, rfl, hfn, hc.1, hc.2, ?_⟩
        unfold extName at h
        rw [Bool.cond_eq_ite] at h
        split at h
        · rename_i hn
          cases h
          exact .inl ⟨by simpa using hn, rfl⟩
        · rw [Bool.cond_eq_ite] at h
          split at h
          · rename_i hn
            cases h
            exact .inr ⟨by simpa using hn, rfl⟩
          · cases h
      · cases h
    · cases h
  · cases h

theorem ext_run {id : Nat} {fn : Func} {e : Array Value → Sem Value} (hf : P.funcs[id]? = some fn) (hb : fn.body.isNone = true) (hn : (fn.name == "runtime.NumGoroutine") = false) (hnx : Extern.findNext fn = none) (he : Extern.find fn = some e) (As : List Value) (w : World) :
    ((do let d ← Deferred.ofValue (.func (.func id) #[] #[]) ⟨As⟩; invoke d.target d.args : Sem Next)).run P w = ((e ⟨As⟩).run P w).andThen fun v w' => .ok (.value v) w' := by
  simp only [Deferred.ofValue, Sem.run_bind, Sem.run_pure, Result.andThen_ok, invoke, Array.empty_append, Array.append_empty]
  exact run_callFunc_extern hf hn hb hnx he _ w

theorem findByte_range (p : Nat → Bool) (c : Nat) : ∀ (s : List Nat) (k : Nat), (∀ j x, s[j]? = some x → p (k + j) = Nat.beq x c) →
    findByte c s k = match (List.range' k s.length).find? p with
      | some i => (i : Int)
      | none => -1
  | [], k, h => by simp [findByte]
  | b :: s, k, h => by
    have h0 := h 0 b (by simp)
    rw [Nat.add_zero] at h0
    rw [List.length_cons, List.range'_succ, List.find?_cons]
    simp only [findByte, bsel_eq, h0]
    cases hb : Nat.beq b c with
    | true => simp
    | false =>
      simp only [Bool.false_eq_true, if_false]
      exact findByte_range p c s (k + 1) (fun j x hj => by
        have := h (j + 1) x (by simpa using hj)
        rw [← this]
        congr 1
        omega)

theorem firstIdx_eq {s : List Nat} (hb : Bytes s) {c : Nat} (hc : c ≤ 255) : firstIdx (mkStr s) ((Int.ofNat c).toNat.toUInt8) = findByte c s 0 := by
  unfold firstIdx
  rw [mkStr_size, List.range_eq_range']
  have h := findByte_range (fun i => (mkStr s)[i]! == (Int.ofNat c).toNat.toUInt8) c s 0 (fun j x hj => by
    have hlt := (List.getElem?_eq_some_iff.1 hj).1
    have hx := hb x (List.mem_of_getElem? hj)
    have e1 : (mkStr s)[0 + j]! = UInt8.ofNat x := by
      rw [Nat.zero_add]
      have hsz : j < (mkStr s).size := by rw [mkStr_size]; exact hlt
      rw [getElem!_pos (mkStr s) j hsz]
      show (mkStr s).data[j] = _
      have := (List.getElem?_eq_some_iff.1 hj).2
      simp [mkStr, this]
    rw [e1]
    rw [Bool.eq_iff_iff, beq_iff_eq, Nat.beq_eq]
    constructor
    · intro he
      have := congrArg UInt8.toNat he
      rw [byteNat hx] at this
      have e2 : ((Int.ofNat c).toNat.toUInt8).toNat = c := by show (UInt8.ofNat c).toNat = c; exact byteNat (by omega)
      omega
    · intro he
      subst he
      rfl)
  rw [h]
  rfl

theorem ext_sound {f : Operand} {k : ExtK} (hk : extOf P f = some k) {as : List AV} {As : List Value} (has : Rvs P σ as As) {v : AV} (h : extV k as = some v) {a : Act} :
    ∃ V, ((do let d ← Deferred.ofValue (a.eval f) ⟨As⟩; invoke d.target d.args : Sem Next)).run P w = .ok (.value V) w ∧ Rv P σ v V := by
  obtain ⟨id, fn, rfl, hfn, hb, ho, hkk⟩ := extOf_some hk
  show ∃ V, ((do let d ← Deferred.ofValue (.func (.func id) #[] #[]) ⟨As⟩; invoke d.target d.args : Sem Next)).run P w = .ok (.value V) w ∧ Rv P σ v V
  rcases hkk with ⟨hn, rfl⟩ | ⟨hn, rfl⟩
  · rw [ext_run hfn hb (by rw [hn]; decide) (findNext_row hn add64_row3 ho) (find_row hn add64_row1 add64_row2 add64_row)]
    unfold extV at h
    split at h
    · rename_i x y c hka
      obtain ⟨hc, h⟩ := bsel_some h
      cases h
      have hc := Nat.le_of_ble_eq_true hc
      rw [Rvs_cons] at has
      obtain ⟨X, Xs, rfl, hX, has⟩ := has
      rw [Rvs_cons] at has
      obtain ⟨Y, Ys, rfl, hY, has⟩ := has
      rw [Rvs_cons] at has
      obtain ⟨Z, Zs, rfl, hZ, has⟩ := has
      rw [Rvs_nil] at has
      subst has
      simp only [Rv] at hX hY hZ
      subst hX; subst hY; subst hZ
      have hr := run_add64 (P := P) (Int.ofNat x) (Int.ofNat y) (Int.ofNat c) (Int.natCast_nonneg x) (Int.natCast_nonneg y) (Int.natCast_nonneg c) (by show (c : Int) ≤ 1; omega) w
      refine ⟨_, by rw [show (⟨[.int .u64 (Int.ofNat x), .int .u64 (Int.ofNat y), .int .u64 (Int.ofNat c)]⟩ : Array Value) = #[.int .u64 (Int.ofNat x), .int .u64 (Int.ofNat y), .int .u64 (Int.ofNat c)] from rfl, hr]; rfl, ?_⟩
      simp only [add64V, Rv]
      refine ⟨_, rfl, Rvs_cons.2 ⟨_, _, rfl, ?_, Rvs_cons.2 ⟨_, _, rfl, ?_, Rvs_nil.2 rfl⟩⟩⟩
      · simp only [Rv]; rfl
      · simp only [Rv]; rfl
    · rename_i h0; cases h0
    · cases h
  · rw [ext_run hfn hb (by rw [hn]; decide) (findNext_row hn idx_row3 ho) (find_row hn idx_row1 idx_row2 idx_row)]
    unfold extV at h
    split at h
    · rename_i h0; cases h0
    · rename_i s c hka
      obtain ⟨hc, h⟩ := bsel_some h
      cases h
      have hc := Nat.le_of_ble_eq_true hc
      rw [Rvs_cons] at has
      obtain ⟨X, Xs, rfl, hX, has⟩ := has
      rw [Rvs_cons] at has
      obtain ⟨Y, Ys, rfl, hY, has⟩ := has
      rw [Rvs_nil] at has
      subst has
      simp only [Rv] at hX hY
      obtain ⟨rfl, hbs⟩ := hX
      subst hY
      have hr := run_indexByte_string (P := P) (mkStr s) (Int.ofNat c) w
      refine ⟨_, by rw [show (⟨[.string (mkStr s), .int .u8 (Int.ofNat c)]⟩ : Array Value) = #[.string (mkStr s), .int .u8 (Int.ofNat c)] from rfl, hr]; rfl, ?_⟩
      simp only [Rv]
      rw [firstIdx_eq hbs hc]
    · cases h

/-- AN OPERATION THAT ACTS. -/
theorem evX_sound (hA : Asked P) (hB : BitsSound P) {call : CallF} (hcall : CallSpec P call) {o : Oper} {xo : XOp} (hc : cOp P o.op = some (.x xo)) {F : Fr} {a : Act} (hF : FrR P σ F a.tmps) (hR : Rep P σ S w) {v : AV} {S' : St}
    (hv : evX xo call F S = some (v, S')) : NextIn P (fun V w' => ∃ σ', Rv P σ' v V ∧ Ext P σ S w σ' S' w') ((execOp a.eval o).run P w) := by
  obtain ⟨dst, op, type, pos, after, guard⟩ := o
  simp only at hc
  have hundef : ∀ σ', Rv P σ' .undef undef := fun σ' => by simp only [AV.undef, undef, Rv]; exact ⟨[], rfl, Rvs_nil.2 rfl⟩
  cases op <;> (try (first | (obtain ⟨y, _, h2⟩ := q_some hc; cases h2; done) | (obtain ⟨y, _, h2⟩ := al_some hc; cases h2; done) | (cases hc; done)))
  case store t x y =>
    obtain ⟨z, h1, h2⟩ := xx_some hc; cases h2
    obtain ⟨⟨agg, n⟩, hag, h1⟩ := bind_some' h1
    obtain ⟨X, hX, h1⟩ := bind_some' h1
    obtain ⟨Y, hY, h1⟩ := bind_some' h1; cases h1
    obtain ⟨cs, h3, h4⟩ := osel_eq_some (show (osel (Y.val F).cells fun cs => xStV (X.val F) n cs S) = some (v, S') from hv)
    obtain ⟨rfl, w', h5, h6⟩ := st_sound hag hR (opd_sound hF hR hX) (opd_sound hF hR hY) h3 h4
    simp only [execOp, Sem.run_bind, h5, Result.andThen_ok, Sem.run_pure]
    exact ⟨σ, hundef σ, h6⟩
  case insert t m k x =>
    simp only [cOp] at hc
    split at hc
    · rename_i kt et hu
      obtain ⟨y, h1, h2⟩ := xx_some hc; cases h2
      obtain ⟨e, he, h1⟩ := bind_some' h1
      obtain ⟨M, hM, h1⟩ := bind_some' h1
      obtain ⟨K, hK, h1⟩ := bind_some' h1
      obtain ⟨X, hX, h1⟩ := bind_some' h1; cases h1
      obtain ⟨rfl, w', h5, h6⟩ := mapUpd_sound hA hB hu he hR (opd_sound hF hR hM) (opd_sound hF hR hK) (opd_sound hF hR hX) hv
      simp only [execOp, Sem.run_bind, h5, Result.andThen_ok, Sem.run_pure]
      exact ⟨σ, hundef σ, h6⟩
    · cases hc
  case mapUpdate t m k x =>
    simp only [cOp] at hc
    split at hc
    · rename_i kt et hu
      obtain ⟨y, h1, h2⟩ := xx_some hc; cases h2
      obtain ⟨e, he, h1⟩ := bind_some' h1
      obtain ⟨M, hM, h1⟩ := bind_some' h1
      obtain ⟨K, hK, h1⟩ := bind_some' h1
      obtain ⟨X, hX, h1⟩ := bind_some' h1; cases h1
      obtain ⟨rfl, w', h5, h6⟩ := mapUpd_sound hA hB hu he hR (opd_sound hF hR hM) (opd_sound hF hR hK) (opd_sound hF hR hX) hv
      simp only [execOp, Sem.run_bind, h5, Result.andThen_ok, Sem.run_pure]
      exact ⟨σ, hundef σ, h6⟩
    · cases hc
  case call c =>
    obtain ⟨callee, args, argTypes⟩ := c
    cases callee with
    | value f =>
      simp only [cOp] at hc
      split at hc
      · rename_i k hk
        obtain ⟨y, h1, h2⟩ := xx_some hc; cases h2
        obtain ⟨As, hAs, h1⟩ := bind_some' h1; cases h1
        obtain ⟨u, h3, h4⟩ := osel_eq_some (show (osel (extV k (valsOf As F)) fun v => some (v, S)) = some (v, S') from hv)
        cases h4
        obtain ⟨V, h5, h6⟩ := ext_sound (w := w) hk (opds_sound hF hR hAs) h3
        have he : (args.map a.eval) = ⟨args.toList.map a.eval⟩ := by apply Array.ext'; simp
        simp only [execOp, resolve, he]
        rw [h5]
        exact ⟨σ, h6, Ext.refl hR⟩
      · obtain ⟨y, h1, h2⟩ := xx_some hc; cases h2
        obtain ⟨Fo, hFo, h1⟩ := bind_some' h1
        obtain ⟨As, hAs, h1⟩ := bind_some' h1; cases h1
        have := hcall _ _ _ _ _ hv σ w _ _ (opd_sound hF hR hFo) (opds_sound hF hR hAs) hR
        have he : (args.map a.eval) = ⟨args.toList.map a.eval⟩ := by apply Array.ext'; simp
        simp only [execOp, resolve, he]
        exact this
    | invoke r m =>
      obtain ⟨y, h1, h2⟩ := xx_some hc; cases h2
      obtain ⟨Ro, hRo, h1⟩ := bind_some' h1
      obtain ⟨As, hAs, h1⟩ := bind_some' h1; cases h1
      have := inv_sound hcall (opd_sound hF hR hRo) (opds_sound hF hR hAs) hR hv
      have he : (args.map a.eval) = ⟨args.toList.map a.eval⟩ := by apply Array.ext'; simp
      have h0 : (#[a.eval r] ++ (⟨args.toList.map a.eval⟩ : Array Value))[0]? = some (a.eval r) := by simp
      have hx : ((#[a.eval r] ++ (⟨args.toList.map a.eval⟩ : Array Value)).extract 1 (#[a.eval r] ++ (⟨args.toList.map a.eval⟩ : Array Value)).size) = ⟨args.toList.map a.eval⟩ := by
        apply Array.ext'
        simp only [Array.toList_extract, Array.toList_append, Array.size_append, List.cons_append, List.nil_append, List.size_toArray, List.length_cons, List.length_nil]
        simp
        exact List.take_of_length_le (by simp)
      simp only [execOp, resolve, he, Sem.run_bind, Sem.run_pure, Result.andThen_ok, invoke, h0, hx]
      exact this
    | builtin b =>
      have arr : ∀ {α : Type} {x : Array α} {l : List α}, x.toList = l → x = l.toArray := fun h => by apply Array.ext'; rw [h]
      simp only [cOp] at hc
      split at hc
      · split at hc
        all_goals (first | (obtain ⟨y, _, h2⟩ := q_some hc; cases h2; done) | (cases hc; done))
      · split at hc
        all_goals (first | (obtain ⟨y, _, h2⟩ := q_some hc; cases h2; done) | (cases hc; done))
      · obtain ⟨y, _, h2⟩ := q_some hc; cases h2
      · obtain ⟨y, _, h2⟩ := q_some hc; cases h2
      · rename_i s x t u hx ht
        have := arr hx; subst this
        have := arr ht; subst this
        split at hc
        · rename_i e i he
          rw [Bool.cond_eq_ite] at hc
          split at hc
          · rename_i hcond
            rw [Bool.and_eq_true] at hcond
            obtain ⟨z, hz⟩ := Option.isSome_iff_exists.1 hcond.2
            obtain ⟨y, h1, h2⟩ := xx_some hc; cases h2
            obtain ⟨So, hS, h1⟩ := bind_some' h1
            obtain ⟨Xo, hX, h1⟩ := bind_some' h1; cases h1
            obtain ⟨V, w', σ', h3, h4, h5⟩ := append_sound (ty := type) he hcond.1 hz hR (opd_sound hF hR hS) (opd_sound hF hR hX) hv
            have hex : (execOp a.eval ⟨dst, .call ⟨.builtin .append, #[s, x], #[t, u]⟩, type, pos, after, guard⟩).run P w = .ok (.value V) w' := by
              simp [execOp, resolve, invoke, builtin, h3]
            have hex' : (execOp a.eval ⟨dst, .call ⟨.builtin .append, [s, x].toArray, [t, u].toArray⟩, type, pos, after, guard⟩).run P w = .ok (.value V) w' := hex
            rw [hex']
            exact ⟨σ', h4, h5⟩
          · cases hc
        · cases hc
      · rename_i x t hx ht
        have := arr hx; subst this
        have := arr ht; subst this
        split at hc
        · rename_i e i he
          obtain ⟨y, h1, h2⟩ := xx_some hc; cases h2
          obtain ⟨z, hz, h1⟩ := bind_some' h1
          obtain ⟨Xo, hX, h1⟩ := bind_some' h1; cases h1
          obtain ⟨rfl, w', h3, h4⟩ := clr_sound (ty := type) he hz hR (opd_sound hF hR hX) hv
          have hex : (execOp a.eval ⟨dst, .call ⟨.builtin .clear, #[x], #[t]⟩, type, pos, after, guard⟩).run P w = .ok (.value (.tuple #[])) w' := by
            simp [execOp, resolve, invoke, builtin, h3]
          have hex' : (execOp a.eval ⟨dst, .call ⟨.builtin .clear, [x].toArray, [t].toArray⟩, type, pos, after, guard⟩).run P w = .ok (.value (.tuple #[])) w' := hex
          rw [hex']
          exact ⟨σ, hundef σ, h4⟩
        · cases hc
      · obtain ⟨hb, d, s, t, u, e, i, Do, So, hd, ht, he, hD, hS, h2⟩ := cCopy_some hc
        have := arr hd; subst this
        have := arr ht; subst this
        cases h2
        subst hb
        obtain ⟨V, w', h3, h4, h5⟩ := copy_sound (u := u) (ty := type) he hR (opd_sound hF hR hD) (opd_sound hF hR hS) hv
        have hex : (execOp a.eval ⟨dst, .call ⟨.builtin .copy, #[d, s], #[t, u]⟩, type, pos, after, guard⟩).run P w = .ok (.value V) w' := by
          simp [execOp, resolve, invoke, builtin, h3]
        have hex' : (execOp a.eval ⟨dst, .call ⟨.builtin .copy, [d, s].toArray, [t, u].toArray⟩, type, pos, after, guard⟩).run P w = .ok (.value V) w' := hex
        rw [hex']
        exact ⟨σ, h4, h5⟩
  case makeFunc fn x y =>
    cases fn <;> (try (first | (obtain ⟨y, _, h2⟩ := q_some hc; cases h2; done) | (cases hc; done)))
    simp only [cOp] at hc
    split at hc
    · obtain ⟨y, _, h2⟩ := q_some hc; cases h2
    · cases hc
  case makeMap t r =>
    cases r <;> simp only [cOp, reduceCtorEq] at hc
    obtain ⟨y, _, h2⟩ := al_some hc; cases h2
  all_goals
    simp only [cOp, Bool.cond_eq_ite] at hc
    (repeat' split at hc) <;> first
      | (obtain ⟨y, _, h2⟩ := q_some hc; cases h2; done)
      | (obtain ⟨y, _, h2⟩ := al_some hc; cases h2; done)
      | (cases hc; done)
end Go.Ev

namespace Go.Ev
variable {P : Program} {σ : Env} {S : St} {w : World}

/-- the fence that lets everything by, in a round or in none -/
def Fw (ro : Option Nat) : Fence := { Fence.wide with round := ro }

theorem callsIn_any {ro : Option Nat} {n m : Nat} {f : FuncId} {args : Array Value} {R : Ending → World → Prop} (h : CallsIn Fence.wide m P f args w R) : CallsIn (Fw ro) n P f args w R :=
  ⟨trivial, fun cs _ => h.2 cs (room_wide _)⟩
theorem roundIn_any {ro : Option Nat} {n m l : Nat} {f : FuncId} {tmps : Array Value} {as bd : Code} {R : Ending → World → Prop} (h : RoundIn Fence.wide m P l f tmps as bd w R) : RoundIn (Fw ro) n P l f tmps as bd w R :=
  ⟨trivial, fun c cs _ => h.2 c cs (room_wide _)⟩

theorem NextIn.mono {R R' : Value → World → Prop} {r : Result Next} (h : NextIn P R r) (hr : ∀ v w, R v w → R' v w) : NextIn P R' r := by
  unfold NextIn at *
  split at h
  · exact hr _ _ h
  · exact hr _ _ h
  · exact CallsIn.mono h fun e w' he => by cases e <;> first | exact hr _ _ he | exact he
  · exact RoundIn.mono h fun e w' he => by cases e <;> first | exact hr _ _ he | exact he
  · exact h.elim

theorem upon_of_next {ro : Option Nat} {n : Nat} {o : Oper} {a : Act} {next : Act → World → Prop} {Q : Exit → Act → World → Prop} {R : Value → World → Prop} {r : Result Next} (h : NextIn P R r)
    (hr : ∀ v w, R v w → next (a.put o.dst v) w) : o.uponIn (Fw ro) n P a next Q r := by
  unfold NextIn at h
  split at h
  · exact hr _ _ h
  · exact hr _ _ h
  · refine ⟨fun hd => by simp [Fw, Fence.wide] at hd, callsIn_any (CallsIn.mono h fun e w' he => ?_)⟩
    cases e with
    | returned v => exact hr _ _ he
    | panicked c => exact he.elim
    | outgrown => exact he.elim
  · refine ⟨fun hd => by simp [Fw, Fence.wide] at hd, roundIn_any (RoundIn.mono h fun e w' he => ?_)⟩
    cases e with
    | returned v => exact hr _ _ he
    | panicked c => exact he.elim
    | outgrown => exact he.elim
  · exact h.elim

/-! ## The frame -/
theorem tmpV_eq (t : Nat) (F : Fr) : tmpV t F = (F.get t).getD .undef := by
  unfold tmpV
  cases F.get t <;> rfl
theorem tmpV_set (F : Fr) (d t : Nat) (v : AV) : tmpV t (F.set d (some v)) = if t = d then v else tmpV t F := by
  rw [tmpV_eq, T.get_set]
  split
  · rfl
  · rw [tmpV_eq]
theorem FrR.put {F : Fr} {a : Act} {d : Option Tmp} {v : AV} {V : Value} (hF : FrR P σ F a.tmps) (hd : dstOk a.tmps.size d = true) (hv : Rv P σ v V) : FrR P σ (putF d F v) (a.put d V).tmps := by
  cases d with
  | none => exact hF
  | some d =>
    have hlt : d < a.tmps.size := Nat.le_of_ble_eq_true hd
    refine ⟨fun t => ?_⟩
    show Rv P σ (tmpV t (F.set d (some v))) _
    rw [tmpV_set]
    simp only [Act.put, Array.getD_eq_getD_getElem?, Array.getElem?_setIfInBounds]
    split
    · rename_i e; subst e; simp; exact hv
    · rename_i hne; rw [if_neg (Ne.symm hne)]; have := hF.get t; simpa [Array.getD_eq_getD_getElem?] using this
theorem put_size (a : Act) (d : Option Tmp) (V : Value) : (a.put d V).tmps.size = a.tmps.size := by cases d <;> simp [Act.put]
theorem put_defers (a : Act) (d : Option Tmp) (V : Value) : (a.put d V).defers = a.defers := by cases d <;> rfl

theorem wants_sound {ops : Array Oper} {o : Oper} {g : Option (Nat × Bool)} (hg : cGuard ops o.guard = some g) {F : Fr} {tmps : Array Value} (hF : FrR P σ F tmps) : Region.wanted o (yielded ops tmps) = wants g F := by
  unfold Region.wanted
  cases ho : o.guard with
  | none =>
    rw [ho] at hg
    simp only [cGuard, Option.some.injEq] at hg
    subst hg
    rfl
  | some jw =>
    obtain ⟨j, want⟩ := jw
    rw [ho] at hg
    simp only [cGuard] at hg
    split at hg
    · rename_i d hd
      cases hg
      show (yielded ops tmps j == some want) = isB (tmpV d F) want
      have hv := hF.get d
      unfold yielded
      rw [hd]
      simp only [Option.bind_some]
      have hgd : tmps.getD d undef = (tmps[d]?).getD undef := Array.getD_eq_getD_getElem? ..
      rw [hgd] at hv
      cases ht : tmps[d]? with
      | none =>
        rw [ht] at hv
        simp only [Option.getD_none] at hv
        cases hb : tmpV d F <;> rw [hb] at hv <;> simp only [isB] <;> first | rfl | (simp only [Rv, undef, reduceCtorEq] at hv)
      | some X =>
        rw [ht] at hv
        simp only [Option.getD_some] at hv
        cases hb : tmpV d F <;> rw [hb] at hv <;> simp only [isB] <;> simp only [Rv] at hv
        case bool b => subst hv; simp only [beq2_eq]; cases b <;> cases want <;> rfl
        all_goals first
          | (subst hv; rfl)
          | (obtain ⟨rfl, _⟩ := hv; rfl)
          | (obtain ⟨L, _, rfl⟩ := hv; rfl)
          | (obtain ⟨A, c, rfl⟩ := hv; rfl)
          | (obtain ⟨A, B, rfl, _⟩ := hv; rfl)
          | (obtain ⟨A, rfl, _⟩ := hv; rfl)
    · cases hg

theorem semAt_eq {o : Oper} {r : Option Nat} {ρ : Operand → Value} (h : ∀ c, o.op ≠ .defer c) : o.semAt r ρ = execOp ρ o := by
  unfold Oper.semAt
  split
  · rename_i h1; exact absurd h1 (h _)
  · rfl

theorem cOp_noDefer {op : Op} {r : AOp} (h : cOp P op = some r) : ∀ c, op ≠ .defer c := by
  rintro c rfl
  cases h

/-- one compiled operation, taken apart -/
theorem cOper_some {nt : Nat} {ops : Array Oper} {o : Oper} {m : Nat} {ao : AO} (h : cOper P nt ops o m = some ao) :
    dstOk nt o.dst = true ∧ cGuard ops o.guard = some ao.grd ∧ ao.dst = o.dst ∧ ao.mask = m ∧ (cOp P o.op = some ao.op ∨ ao.op = .x .bad) := by
  unfold cOper at h
  rw [Bool.cond_eq_ite] at h
  split at h
  · rename_i hd
    split at h
    · rename_i g hg
      split at h
      · rename_i op hop; cases h; exact ⟨hd, hg, rfl, rfl, .inl hop⟩
      · cases h; exact ⟨hd, hg, rfl, rfl, .inr rfl⟩
    · cases h
  · cases h

/-- ONE OPERATION, WHATEVER IT IS. -/
theorem evOp_sound (hA : Asked P) (hB : BitsSound P) {call : CallF} (hcall : CallSpec P call) {ao : AO} {o : Oper} (hop : cOp P o.op = some ao.op ∨ ao.op = .x .bad) {F F' : Fr} {a : Act} (hdst : ao.dst = o.dst) (hd : dstOk a.tmps.size o.dst = true)
    (hF : FrR P σ F a.tmps) (hR : Rep P σ S w) {S' : St} (h : oOp ao.op ao.dst call F S = some (F', S')) :
    (∀ c, o.op ≠ .defer c) ∧ NextIn P (fun V w' => ∃ σ', FrR P σ' F' (a.put o.dst V).tmps ∧ Ext P σ S w σ' S' w') ((execOp a.eval o).run P w) := by
  rcases hop with hop | hop
  · refine ⟨cOp_noDefer hop, ?_⟩
    cases hao : ao.op with
    | q qo =>
      rw [hao] at h hop
      obtain ⟨v, h1, h2⟩ := osel_eq_some (show (osel (evQ qo F S.h) fun v => some (putF ao.dst F v, S)) = some (F', S') from h)
      cases h2
      obtain ⟨V, h3, h4⟩ := evQ_sound hA hop hF hR h1
      rw [h3]
      exact ⟨σ, by rw [hdst]; exact hF.put hd h4, Ext.refl hR⟩
    | a al =>
      rw [hao] at h hop
      obtain ⟨⟨v, bl⟩, h1, h2⟩ := osel_eq_some (show (osel (evA al F S.nx) fun r => some (putF ao.dst F r.1, (⟨S.h.set S.nx (some r.2), Nat.succ S.nx⟩ : St))) = some (F', S') from h)
      cases h2
      obtain ⟨V, w', h3, ob, e, m1, m2, m3, m4, m5, m6, m7⟩ := evA_sound hop hF hR S.nx (hR.fresh _ (Nat.le_refl _)) h1
      rw [h3]
      have hext := Ext.alloc hR m1 m2 m3 m4 m5 m6
      exact ⟨_, by rw [hdst]; exact (hF.mono (hext.mono hR)).put hd m7, hext⟩
    | x xo =>
      rw [hao] at h hop
      obtain ⟨⟨v, S1⟩, h1, h2⟩ := osel_eq_some (show (osel (evX xo call F S) fun r => some (putF ao.dst F r.1, r.2)) = some (F', S') from h)
      cases h2
      refine (evX_sound hA hB hcall hop hF hR h1).mono ?_
      rintro V w' ⟨σ', h3, h4⟩
      exact ⟨σ', by rw [hdst]; exact (hF.mono (h4.mono hR)).put hd h3, h4⟩
  · rw [hop] at h
    obtain ⟨r, h1, _⟩ := osel_eq_some (show (osel (evX .bad call F S) fun r => some (putF ao.dst F r.1, r.2)) = some (F', S') from h)
    cases h1

theorem evOps_cons (o : AO) (os : List AO) (call : CallF) (F : Fr) (S : St) : evOps (o :: os) call F S = osel (evOp o call F S) fun r => evOps os call r.1 r.2 := rfl

/-- A PLAIN REGION. -/
theorem evOps_sound (hA : Asked P) (hB : BitsSound P) {call : CallF} (hcall : CallSpec P call) {ro : Option Nat} {n nt : Nat} {ops : Array Oper} {Q : Exit → Act → World → Prop} :
    ∀ (l : List Oper) (k : Nat) (ms : List Nat) (aos : List AO) (σ : Env) (F F' : Fr) (S S' : St) (a : Act) (w : World), (∀ j, j < l.length → l[j]? = ops[k + j]?) → cOpers P nt ops l ms = some aos → a.tmps.size = nt → FrR P σ F a.tmps → Rep P σ S w →
      evOps aos call F S = some (F', S') → (∀ σ' a' w', FrR P σ' F' a'.tmps → a'.tmps.size = nt → a'.defers = a.defers → Ext P σ S w σ' S' w' → Q .normal a' w') →
      wpOpsIn (Fw ro) n P ops Q (List.range' k l.length) a w
  | [], k, ms, aos, σ, F, F', S, S', a, w, hl, hc, hn, hF, hR, h, hQ => by
    simp only [cOpers, Option.some.injEq] at hc
    subst hc
    cases h
    exact hQ σ a w hF hn rfl (Ext.refl hR)
  | o :: l, k, ms, aos, σ, F, F', S, S', a, w, hl, hc, hn, hF, hR, h, hQ => by
    simp only [cOpers] at hc
    split at hc
    · rename_i ao aos' hao haos
      cases hc
      obtain ⟨hd, hg, hdst, _, hop⟩ := cOper_some hao
      rw [evOps_cons] at h
      obtain ⟨⟨F1, S1⟩, h1, h2⟩ := osel_eq_some h
      have ho : ops[k]? = some o := by have := hl 0 (by simp); simpa using this.symm
      have hl' : ∀ j, j < l.length → l[j]? = ops[(k + 1) + j]? := fun j hj => by have := hl (j + 1) (by simp; omega); simpa [Nat.add_assoc, Nat.add_comm 1 j] using this
      simp only [List.length_cons, List.range'_succ, wpOpsIn, ho]
      rw [wants_sound hg hF]
      unfold evOp at h1
      rw [bsel_eq] at h1
      have hd' : dstOk a.tmps.size o.dst = true := by rw [hn]; exact hd
      split at h1
      · rename_i hw
        rw [if_pos hw]
        obtain ⟨hnd, hnext⟩ := evOp_sound hA hB hcall hop hdst hd' hF hR h1
        refine ⟨fun _ _ => trivial, ?_⟩
        rw [semAt_eq hnd]
        refine upon_of_next hnext ?_
        rintro V w' ⟨σ1, hF1, hE1⟩
        exact evOps_sound hA hB hcall l (k + 1) ms.tail aos' σ1 F1 F' S1 S' _ w' hl' haos (by rw [put_size]; exact hn) hF1 hE1.rep h2 (fun σ' a' w'' q1 q2 q3 q4 => hQ σ' a' w'' q1 q2 (by rw [q3, put_defers]) (hE1.trans q4))
      · rename_i hw
        rw [if_neg hw]
        cases h1
        refine ⟨fun _ _ => trivial, ?_⟩
        have hund : Rv P σ .undef undef := by simp only [AV.undef, undef, Rv]; exact ⟨[], rfl, Rvs_nil.2 rfl⟩
        exact evOps_sound hA hB hcall l (k + 1) ms.tail aos' σ _ F' S S' _ w hl' haos (by rw [put_size]; exact hn) (by rw [hdst]; exact hF.put hd' hund) hR h2 (fun σ' a' w'' q1 q2 q3 q4 => hQ σ' a' w'' q1 q2 (by rw [q3, put_defers]) q4)
    · cases hc
end Go.Ev
