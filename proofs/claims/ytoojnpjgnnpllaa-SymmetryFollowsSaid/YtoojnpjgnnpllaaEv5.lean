import Derived.Test.YtoojnpjgnnpllaaEv4
import Derived.Laws.MakeOwn
import Derived.Lib.ConvBytes
import Derived.CallsIn
import Derived.Deep.Upon
import Derived.OrdersIn
import Derived.RangeFuncLeaves
import Derived.LoopNIn
import Derived.Laws.Externs
import Derived.KernelRfl
namespace Go.Ev
variable {P : Program} {σ : Env} {S : St} {w : World}
def aCx (P : Program) (σ : Env) (w : World) (id : Nat) (v : AV) (bl : AB) (V : Value) (w' : World) : Prop :=
 ∃ ob e, w'.heap = w.heap.push ob ∧ w'.os = w.os ∧ w'.tape = w.tape ∧ w'.output = w.output ∧
  oJ P (upd σ id ⟨w.heap.size, 0, e⟩) w' ⟨w.heap.size, 0, e⟩ bl ∧ rK bl ∧ Rv P (upd σ id ⟨w.heap.size, 0, e⟩) v V
theorem aBb {w' : World} {C : Array Value} {t : TypeId} {fz : Nat × Nat} (hw : w'.heap = w.heap.push (.cells C t fz)) (j : Nat) : w'.cell? ⟨w.heap.size, j, none⟩ = C[j]? := by
 simp [World.cell?, hw]
theorem aDO {w' : World} {C : Array Value} {t : TypeId} {fz : Nat × Nat} (hw : w'.heap = w.heap.push (.cells C t fz)) (j : Nat) (h : ¬ (fz.1 ≤ j ∧ j < fz.2)) : w'.frozen? ⟨w.heap.size, j, none⟩ = false := by
 simp [World.frozen?, hw]
 intro h1
 omega
theorem rZ {w' : World} {C : List Value} {X : List Value} {t : TypeId} {fz : Nat × Nat} {cs : List AV} {o : Bool} {e s : Nat} (hw : w'.heap = w.heap.push (.cells (C ++ X).toArray t fz)) (hfz : (C ++ X).length ≤ fz.1 ∨ fz.1 = fz.2)
  (hC : gO P σ cs C) (h1 : ∀ u ∈ C, u.oneCell' = true) (hx : o = true → X.length = e * s) : oJ P σ w' ⟨w.heap.size, 0, e⟩ (.cells cs o s) := by
 refine ⟨C, hC, h1, fun j v hv => ?_, fun j hj => ?_⟩
 ·rw [Am, aBb hw]
  have hj := (Ai.1 hv).1
  simp [An hj, hv]
 ·have hj' : j < (C ++ X).length := by
   rw [Ah]
   cases o
   ·simp at hj; omega
   ·have := hx rfl; simp at hj; omega
  rw [Am, aBb hw]
  refine ⟨?_, aDO hw j (by rcases hfz with h | h <;> omega)⟩
  simp
  simpa using hj'
theorem aEo {o : Oper} {t : TypeId} {cells : List AV} {a : Act} (ho : o.op = .alloc t) (hz : iP P t = some cells) (id : Nat) (hid : σ id = none) :
  ∃ V w', (execOp a.eval o).run P w = .ok (.value V) w' ∧ aCx P σ w id (.ptr id 0) (.cells cells false 0) V w' := by
 obtain ⟨i, Z, hi, hZ, h1, h2⟩ := kK (σ := upd σ id ⟨w.heap.size, 0, 0⟩) hz
 refine ⟨.pointer (some ⟨w.heap.size, 0, none⟩), w.alloc (.cells Z.cells t), ?_, ⟨.cells Z.cells t, 0, rfl, rfl, rfl, rfl, ?_, trivial, ?_⟩⟩
 ·simp [execOp, ho, Instr.alloc, vJ hi hZ, newVar, newRow]
 ·refine rZ (X := []) (t := t) (fz := (0, 0)) ?_ (.inr rfl) h1 h2 (by simp)
  show w.heap.push _ = _
  simp
 ·simp only [Rv]
  exact ⟨_, upd_same _ _, by simp⟩
theorem aHA {o : Oper} {t : TypeId} {x : Operand} {X : cK} {F : Fr} {a : Act} (ho : o.op = .box t x) (hX : iK P x = some X) (hF : oZ P σ F a.tmps) (hR : kT P σ S w) {cs : List AV} (hcs : (X.val F).cells = some cs) (id : Nat) (hid : σ id = none) :
  ∃ V w', (execOp a.eval o).run P w = .ok (.value V) w' ∧ aCx P σ w id (.ptr id 0) (.cells cs false 0) V w' := by
 have hx := (cN hF hR hX).mono (fQ (L := ⟨w.heap.size, 0, 0⟩) hid)
 obtain ⟨h1, h2⟩ := wM hx hcs
 refine ⟨.pointer (some ⟨w.heap.size, 0, none⟩), w.alloc (.cells (a.eval x).cells t), ?_, ⟨.cells (a.eval x).cells t, 0, rfl, rfl, rfl, rfl, ?_, trivial, ?_⟩⟩
 ·simp [execOp, ho, Instr.box, newVar, newRow]
 ·refine rZ (X := []) (t := t) (fz := (0, 0)) ?_ (.inr rfl) h1 h2 (by simp)
  show w.heap.push _ = _
  simp
 ·simp only [Rv]
  exact ⟨_, upd_same _ _, by simp⟩
theorem zS {F : Fr} {a : Act} {size : Nat} (hF : oZ P σ F a.tmps) (hR : kT P σ S w) : ∀ {ps : List (Nat × Operand)} {qs : List (Nat × cK)}, tC P ps = some qs →
  (ps.map fun p => (p.1, a.eval p.2)).length = (jD size F qs).length ∧
  ∀ (j i : Nat) (V : Value) (off n : Nat) (v : AV), (ps.map fun p => (p.1, a.eval p.2))[j]? = some (i, V) → (jD size F qs)[j]? = some (off, n, v) → (fun i => some (i * size, size)) i = some (off, n) ∧ Rv P σ v V
 | [], qs, h => by
  simp only [tC, Ar] at h
  subst h
  exact ⟨rfl, fun j i V off n v h1 => by simp at h1⟩
 | (i, x) :: ps, qs, h => by
  simp only [tC] at h
  split at h
  ·rename_i X qs' hx hqs
   cases h
   obtain ⟨h1, h2⟩ := zS (size := size) hF hR hqs
   refine ⟨by simp [jD] at h1 ⊢; exact h1, fun j i' V off' n' v hj1 hj2 => ?_⟩
   cases j with
   | zero =>
    simp only [Dd, List.getElem?_cons_zero, jD, Ar, Prod.mk.injEq] at hj1 hj2
    obtain ⟨rfl, rfl⟩ := hj1
    obtain ⟨rfl, rfl, rfl⟩ := hj2
    exact ⟨rfl, cN hF hR hx⟩
   | succ j =>
    simp only [Dd, Ch, jD] at hj1 hj2
    exact h2 j i' V off' n' v hj1 hj2
  ·cases h
theorem mC (Z : List Value) : ∀ n : Nat, (List.range (n * Z.length)).map (fun i => Z[i % Z.length]!) = repeatL Z n
 | 0 => by simp [qL]
 | n + 1 => by
  rw [Cg, Nat.add_comm, List.range_add, Co, jS]
  congr 1
  ·apply En
   ·simp
   ·intro j h1 h2
    simp only [Av, Cy] at h1
    simp [Nat.mod_eq_of_lt h1, List.getElem!_eq_getElem?_getD, h1]
  ·rw [← mC Z n, Ei]
   apply Dt
   intro j _
   simp
theorem uX {z : List AV} {Z : List Value} (h : gO P σ z Z) : ∀ n, gO P σ (repeatL z n) (repeatL Z n)
 | 0 => dD.2 rfl
 | n + 1 => by rw [jS, jS]; exact h.append (uX h n)
theorem tW {Z : List Value} (h : ∀ u ∈ Z, u.oneCell' = true) : ∀ n, ∀ u ∈ repeatL Z n, u.oneCell' = true
 | 0, u, hu => by simp [qL] at hu
 | n + 1, u, hu => by
  rw [jS] at hu
  rcases Bh.1 hu with hu | hu
  ·exact h u hu
  ·exact tW h n u hu
theorem qG {t e : TypeId} {i : TypeInfo} (h : nT P t = some (e, i)) : P.underlying t = some (.slice e) ∧ P.info? e = some i := by
 unfold nT at h
 split at h
 ·rename_i e' hu
  obtain ⟨i', hi, h2⟩ := Aw.1 h
  cases h2
  exact ⟨hu, hi⟩
 ·cases h
theorem nM {e : TypeId} {i : TypeInfo} {z : List AV} (hi : P.info? e = some i) (h : lA P e i = some z) :
  ∃ Z, i.zero = some Z ∧ gO P σ z Z.cells.toList ∧ (∀ u ∈ Z.cells.toList, u.oneCell' = true) ∧ Z.cells.size = i.size ∧ z.length = i.size := by
 unfold lA at h
 split at h
 ·rename_i z' hz
  rw [Bp] at h
  split at h
  ·rename_i hn
   rw [Bd] at hn
   cases h
   obtain ⟨i', Z, hi', hZ, h1, h2⟩ := kK (σ := σ) hz
   rw [hi] at hi'; cases hi'
   exact ⟨Z, hZ, h1, h2, by have := h1.length; simp at this; omega, hn⟩
  ·cases h
 ·cases h
theorem aDn {o : Oper} {t e : TypeId} {i : TypeInfo} {n : Nat} {ps : Array (Nat × Operand)} {qs : List (Nat × cK)} {z : List AV} {F : Fr} {a : Act} (ho : o.op = .buildSlice t n ps) (he : nT P t = some (e, i))
  (hn : n * i.size ≤ 65536) (hz : lA P e i = some z) (hq : tC P ps.toList = some qs) (hF : oZ P σ F a.tmps) (hR : kT P σ S w) (id : Nat) (hid : σ id = none)
  {cs : List AV} (h : eF (repeatL z n) (jD i.size F qs) = some cs) :
  ∃ V w', (execOp a.eval o).run P w = .ok (.value V) w' ∧ aCx P σ w id (.sl id 0 n n false) (.cells cs false 0) V w' := by
 obtain ⟨hu, hi⟩ := qG he
 obtain ⟨Z, hZ, h1, h2, h3, h4⟩ := nM (σ := σ) hi hz
 obtain ⟨hl, hp⟩ := zS (size := i.size) hF hR hq
 obtain ⟨R, hR1, hR2, hR3⟩ := qX hl hp (uX h1 n) (tW h2 n) h
 have hm := fQ (L := ⟨w.heap.size, 0, 0⟩) hid
 have hpl : (ps.map fun (i, x) => (i, a.eval x)).toList = ps.toList.map fun p => (p.1, a.eval p.2) := by simp
 have hlim : ¬ (n * i.size > 2 ^ 24) := by
  have : (2 : Nat) ^ 24 = 16777216 := rfl
  omega
 refine ⟨.slice (some ⟨w.heap.size, 0, none⟩) n n, w.alloc (.cells ⟨R⟩ e), ?_, ⟨.cells ⟨R⟩ e, 0, rfl, rfl, rfl, rfl, ?_, trivial, ?_⟩⟩
 ·by_cases h0 : n * i.size = 0
  ·have hrange : Array.range (n * i.size) = #[] := by rw [h0]; rfl
   have hlen := repeatL_length Z.cells.toList n
   simp only [Ed, h3, h0] at hlen
   have hrep := List.eq_nil_of_length_eq_zero hlen
   rw [hrep] at hR1
   simp only [execOp, ho, Instr.buildSlice, Sem.run_bind, run_underlying hu, Result.andThen_ok, sizeOf, typeInfo, run_program, hi, Sem.run_pure, if_neg hlim, hpl, if_pos h0, hrange, Array.map_empty, hR1, newRow, run_newObj]
   rfl
  ·have hrow : (Array.range (n * i.size)).map (Z.cells[· % Z.cells.size]!) = (⟨repeatL Z.cells.toList n⟩ : Array Value) := by
    have := mC Z.cells.toList n
    simp only [Ed, h3] at this
    apply Array.ext'
    simp only [Em, Array.toList_range, h3]
    rw [← this]
    apply Dt
    intro j _
    simp [Array.getElem!_eq_getD, Bi]
   simp only [execOp, ho, Instr.buildSlice, Sem.run_bind, run_underlying hu, Result.andThen_ok, sizeOf, typeInfo, run_program, hi, Sem.run_pure, if_neg hlim, hpl, if_neg h0, vJ hi hZ, hrow, hR1, newRow, run_newObj]
   rfl
 ·refine rZ (X := []) (t := e) (fz := (0, 0)) ?_ (.inr rfl) (hR2.mono hm) hR3 (by simp)
  show w.heap.push _ = _
  simp
 ·simp only [Rv]
  exact ⟨_, upd_same _ _, by simp⟩
theorem aB7 {o : Oper} {t e : TypeId} {i : TypeInfo} {lo co : Operand} {L C : cK} {z : List AV} {F : Fr} {a : Act} (ho : o.op = .makeSlice t lo co) (he : nT P t = some (e, i))
  (hz : lA P e i = some z) (hL : iK P lo = some L) (hC : iK P co = some C) (hF : oZ P σ F a.tmps) (hR : kT P σ S w) (id : Nat) (hid : σ id = none) {v : AV} {bl : AB}
  (h : sR e i.size i.bytes z L C F id = some (v, bl)) :
  ∃ V w', (execOp a.eval o).run P w = .ok (.value V) w' ∧ aCx P σ w id v bl V w' := by
 obtain ⟨hu, hi⟩ := qG he
 obtain ⟨Z, hZ, h1, h2, h3, h4⟩ := nM (σ := σ) hi hz
 obtain ⟨l, hl, h⟩ := aK h
 obtain ⟨c, hc, h⟩ := aK h
 obtain ⟨hlc, h⟩ := cG h
 obtain ⟨hc1, h⟩ := cG h
 obtain ⟨hc2, h⟩ := cG h
 cases h
 have hlc := Ay hlc
 have hc1 := Ay hc1
 have hc2 := Ay hc2
 unfold room at hc1 hc2
 obtain ⟨kl, hkl⟩ := nP hl
 obtain ⟨kc, hkc⟩ := nP hc
 have hl' := cN hF hR hL
 have hc' := cN hF hR hC
 rw [hkl] at hl'
 rw [hkc] at hc'
 simp only [Rv] at hl' hc'
 have hm := fQ (L := ⟨w.heap.size, 0, 0⟩) hid
 have hrun := run_make (P := P) w t e i Z hu hi hZ kl kc (Int.ofNat l) (Int.ofNat c) (by simp) (by simpa using hlc) (by
  have : ((i.bytes * c : Nat) : Int) ≤ 281474976710656 := by omega
  simpa using this) (by simp; omega)
 have hcells : madeCells Z.cells (c * i.size) = (⟨repeatL Z.cells.toList c⟩ : Array Value) := by
  have := mC Z.cells.toList c
  simp only [Ed, h3] at this
  apply Array.ext'
  simp only [madeCells, Em, Array.toList_range, h3]
  rw [← this]
  apply Dt
  intro j _
  simp [Array.getElem!_eq_getD, Bi]
 refine ⟨.slice (some ⟨w.heap.size, 0, none⟩) l c, w.alloc (.cells ⟨repeatL Z.cells.toList c⟩ e), ?_, ⟨.cells ⟨repeatL Z.cells.toList c⟩ e, 0, rfl, rfl, rfl, rfl, ?_, trivial, ?_⟩⟩
 ·have ht1 : (Int.ofNat l).toNat = l := rfl
  have ht2 : (Int.ofNat c).toNat = c := rfl
  rw [ht1, ht2, hcells] at hrun
  simp only [execOp, ho, hl', hc', Sem.run_bind, hrun, Result.andThen_ok, Sem.run_pure]
 ·refine rZ (X := []) (t := e) (fz := (0, 0)) ?_ (.inr rfl) ((uX h1 c).mono hm) (tW h2 c) (by simp)
  show w.heap.push _ = _
  simp
 ·simp only [Rv]
  exact ⟨_, upd_same _ _, by simp⟩
theorem sF (s : List Nat) (hb : Bytes s) : Go.byteCells (fY s) = s.map fun b => Value.int .u8 (Int.ofNat b) := by
 unfold Go.byteCells
 simp only [fY, Ei]
 apply Dt
 intro b hbm
 show Value.int .u8 (((UInt8.ofNat b).toNat : Nat) : Int) = _
 rw [aAl (hb b hbm)]
 rfl
theorem tR : ∀ (s : List Nat), gO P σ (byteCells s) (s.map fun b => Value.int .u8 (Int.ofNat b))
 | [] => dD.2 rfl
 | b :: s => dE.2 ⟨_, _, rfl, by simp only [Rv], tR s⟩
end Go.Ev
namespace Go.Ev
variable {P : Program} {σ : Env} {S : St} {w : World}
theorem aCo {o : Oper} {ao : sG} (hc : xD P o.op = some (.a ao)) {F : Fr} {a : Act} (hF : oZ P σ F a.tmps) (hR : kT P σ S w) (id : Nat) (hid : σ id = none) {v : AV} {bl : AB} (hv : rO ao F id = some (v, bl)) :
  ∃ V w', (execOp a.eval o).run P w = .ok (.value V) w' ∧ aCx P σ w id v bl V w' := by
 obtain ⟨dst, op, type, pos, after, guard⟩ := o
 simp only at hc
 cases op <;> (try (first | (obtain ⟨y, _, h2⟩ := dK hc; cases h2; done) | (obtain ⟨y, _, h2⟩ := mY hc; cases h2; done) | (cases hc; done)))
 case alloc t =>
  obtain ⟨y, h1, h2⟩ := mH hc; cases h2
  obtain ⟨z, hz, h1⟩ := bG h1; cases h1
  cases hv
  exact aEo rfl hz id hid
 case box t x =>
  obtain ⟨y, h1, h2⟩ := mH hc; cases h2
  obtain ⟨X, hX, h1⟩ := bG h1; cases h1
  obtain ⟨cs, h3, h4⟩ := aK (show (bE (X.val F).cells fun cs => some (AV.ptr id 0, AB.cells cs false 0)) = some (v, bl) from hv)
  cases h4
  exact aHA rfl hX hF hR h3 id hid
 case build t ps =>
  simp only [xD] at hc
  split at hc
  ·rw [Bp] at hc
   split at hc
   ·obtain ⟨y, _, h2⟩ := dK hc; cases h2
   ·cases hc
  ·obtain ⟨y, _, h2⟩ := dK hc; cases h2
  ·cases hc
 case buildSlice t n ps =>
  obtain ⟨y, h1, h2⟩ := mH hc; cases h2
  obtain ⟨⟨e, i⟩, he, h1⟩ := bG h1
  simp only at h1
  split at h1
  ·cases h1
  ·rename_i hn
   obtain ⟨z, hz, h1⟩ := bG h1
   obtain ⟨qs, hq, h1⟩ := bG h1; cases h1
   obtain ⟨cs, h3, h4⟩ := aK (show (bE (eF (repeatL z n) (jD i.size F qs)) fun cs => some (AV.sl id 0 n n false, AB.cells cs false 0)) = some (v, bl) from hv)
   cases h4
   exact aDn rfl he (by omega) hz hq hF hR id hid h3
 case makeSlice t l c =>
  obtain ⟨y, h1, h2⟩ := mH hc; cases h2
  obtain ⟨⟨e, i⟩, he, h1⟩ := bG h1
  obtain ⟨z, hz, h1⟩ := bG h1
  obtain ⟨L, hL, h1⟩ := bG h1
  obtain ⟨C, hC, h1⟩ := bG h1; cases h1
  exact aB7 rfl he hz hL hC hF hR id hid hv
 case makeInterface t x =>
  simp only [xD] at hc
  split at hc
  ·cases hc
  ·obtain ⟨y, _, h2⟩ := dK hc; cases h2
  ·cases hc
 case makeFunc fn x y =>
  cases fn <;> (first | (obtain ⟨y, _, h2⟩ := dK hc; cases h2; done) | (cases hc; done))
 case slice t x lo hh mx =>
  simp only [xD, Bp] at hc
  split at hc
  ·cases hc
  ·split at hc
   ·obtain ⟨y, _, h2⟩ := dK hc; cases h2
   ·obtain ⟨y, _, h2⟩ := dK hc; cases h2
   ·cases hc
 case fieldAddr t x f =>
  simp only [xD] at hc
  split at hc
  ·obtain ⟨y, _, h2⟩ := dK hc; cases h2
  ·cases hc
 case field t x f =>
  simp only [xD] at hc
  split at hc
  ·obtain ⟨y, _, h2⟩ := dK hc; cases h2
  ·cases hc
 case indexAddr t x f =>
  simp only [xD] at hc
  split at hc
  ·obtain ⟨y, _, h2⟩ := dK hc; cases h2
  ·obtain ⟨y, _, h2⟩ := dK hc; cases h2
  ·cases hc
 case call c =>
  obtain ⟨callee, args, argTypes⟩ := c
  cases callee with
  | value f =>
   simp only [xD] at hc
   split at hc
   ·cases hc
   ·obtain ⟨y, _, h2⟩ := mY hc; cases h2
  | invoke r m => cases hc
  | builtin b =>
   simp only [xD] at hc
   split at hc
   ·split at hc
    all_goals (first | (obtain ⟨y, _, h2⟩ := dK hc; cases h2; done) | (cases hc; done))
   ·obtain ⟨y, _, h2⟩ := dK hc; cases h2
   ·obtain ⟨y, _, h2⟩ := dK hc; cases h2
   ·split at hc
    ·rw [Bp] at hc
     split at hc
     ·obtain ⟨y, _, h2⟩ := mY hc; cases h2
     ·cases hc
    ·cases hc
   ·cases hc
theorem heap_setCells_other (g : Nat) : ∀ (vs : List Value) (o : Nat) (w : World) (r : Nat), r ≠ g → (w.setCells g o vs).heap[r]? = w.heap[r]?
 | [], o, w, r, h => rfl
 | v :: vs, o, w, r, h => by
  rw [World.setCells, heap_setCells_other g vs (o + 1) _ r h]
  exact heap_setCell_other w ⟨g, o, none⟩ r v h
theorem size_setCells (g : Nat) : ∀ (vs : List Value) (o : Nat) (w : World), (w.setCells g o vs).heap.size = w.heap.size
 | [], o, w => rfl
 | v :: vs, o, w => by rw [World.setCells, size_setCells g vs (o + 1)]; simp
theorem os_setCells (g : Nat) : ∀ (vs : List Value) (o : Nat) (w : World), (w.setCells g o vs).os = w.os ∧ (w.setCells g o vs).tape = w.tape ∧ (w.setCells g o vs).output = w.output
 | [], o, w => ⟨rfl, rfl, rfl⟩
 | v :: vs, o, w => by rw [World.setCells]; exact os_setCells g vs (o + 1) _
theorem zK (hR : kT P σ S w) {b off : Nat} {cs : List AV} {Cs : List Value} (hC : gO P σ cs Cs) (h1 : ∀ u ∈ Cs, u.oneCell' = true) {S' : St} (h : oP S b off cs = some S') :
  ∃ L, σ b = some L ∧ w.there L.r (L.d + off) Cs.length ∧ jI P σ S w σ S' (w.setCells L.r (L.d + off) Cs) := by
 obtain ⟨bl, hb, h⟩ := aK h
 cases bl <;> simp only [yQ, reduceCtorEq] at h
 rename_i old o s
 obtain ⟨cs', hput, h⟩ := aK h
 cases h
 obtain ⟨L, hL, hlt, Os, h2, h3, h4, h5⟩ := hR.blk b _ hb
 have hle := (vY hput).1
 have hlen := h2.length
 have hcl := hC.length
 have hth : w.there L.r (L.d + off) Cs.length := fun j hj => by
  have := h5 (off + j) (by omega)
  rwa [← Ct] at this
 refine ⟨L, hL, hth, ?_⟩
 obtain ⟨e1, e2, e3⟩ := os_setCells L.r Cs (L.d + off) w
 have hput' := h2.put hC hput
 refine jI.write hR hb trivial trivial hL (fun r hr => heap_setCells_other L.r Cs _ w r hr) (size_setCells L.r Cs _ w) e1 e2 e3 ?_
 refine ⟨Os.take off ++ Cs ++ Os.drop (off + Cs.length), hput', fun u hu => ?_, fun j v hv => ?_, fun j hj => ?_⟩
 ·simp only [Bh] at hu
  rcases hu with (hu | hu) | hu
  ·exact h3 u (Dx hu)
  ·exact h1 u hu
  ·exact h3 u (Eh hu)
 ·have hget : (Os.take off ++ Cs ++ Os.drop (off + Cs.length))[j]? = if j < off then Os[j]? else if j < off + Cs.length then Cs[j - off]? else Os[j]? :=
   aJ5 (l := Os) (vs := Cs) (k := off) (by rw [put_eq, if_pos (by omega)]) j
  rw [hget] at hv
  split at hv
  ·rename_i hlt1
   rw [World.cell?_setCells_out L.r Cs (L.d + off) w _ (fun _ _ => .inl (by simp only; omega))]
   exact h4 j v hv
  ·split at hv
   ·rename_i h6 h7
    have := World.cell?_setCells_in L.r Cs (L.d + off) w (fun k hk => (hth k hk).1) (j - off) (by omega)
    rw [show L.d + off + (j - off) = L.d + j by omega] at this
    rw [this]
    rw [Ab (by omega)] at hv
    exact hv
   ·rename_i h6 h7
    rw [World.cell?_setCells_out L.r Cs (L.d + off) w _ (fun _ _ => .inr (by simp only; omega))]
    exact h4 j v hv
 ·have hj' : j < Os.length + if o = true then L.e * s else 0 := by
   have : (Os.take off ++ Cs ++ Os.drop (off + Cs.length)).length = Os.length := by simp; omega
   rw [this] at hj
   exact hj
  have := h5 j hj'
  exact ⟨World.isSome_setCells L.r Cs (L.d + off) w _ this.1, by rw [World.frozen?_setCells]; exact this.2⟩
end Go.Ev
namespace Go.Ev
variable {P : Program} {σ : Env} {S : St} {w : World}
theorem aHt {u : TypeId} {i : TypeInfo} (hu : aJ2 P u i = true) (hR : kT P σ S w) {x : AV} {X : Value} (hx : Rv P σ x X) {n : Nat} {new : List AV} (hn : jZ x = some n) (hs : eE x S.h i.size n = some new) :
  ∃ News, Src P i.size u X n News w ∧ gO P σ new News := by
 have hkind : (∃ e', P.underlying u = some (.slice e')) ∨ P.underlying u = some .string := by
  unfold aJ2 at hu
  split at hu
  ·exact .inl ⟨_, ‹_›⟩
  ·exact .inr ‹_›
  ·cases hu
 cases x <;> simp only [jZ, reduceCtorEq, Ar] at hn <;> simp only [eE] at hs <;> simp only [Rv] at hx
 ·obtain ⟨rfl, hb⟩ := hx
  rename_i s
  rw [gG] at hn
  subst hn
  obtain ⟨h0, hs⟩ := cG hs
  rw [Bd] at h0
  obtain ⟨r, h1, h2⟩ := aK hs
  cases h2
  rw [fO, if_pos (Af _), List.take_length] at h1
  cases h1
  refine ⟨s.map fun b => Value.int .u8 (Int.ofNat b), ⟨hkind, fun _ => by simp [Builtin.lenOf, nC], ?_, ?_, by simp [h0], fun u hu => by obtain ⟨_, _, rfl⟩ := Dr.1 hu; rfl⟩, tR s⟩
  ·rw [h0, ← sF s hb]
   have := firstCells_string (P := P) (fY s) w
   rw [nC] at this
   exact this
  ·rw [h0, ← sF s hb]
   have := firstCells_string (P := P) (fY s) w.drew
   rw [nC] at this
   exact this
 ·obtain ⟨L, hL, rfl⟩ := hx
  subst hn
  obtain ⟨L', Cs, hL', h3, h4, h5, h6⟩ := aBF hR hs
  rw [hL] at hL'; cases hL'
  have hcell : ∀ j u, Cs[j]? = some u → w.cell? ((⟨L.r, L.d + _, none⟩ : Addr).add j) = some u := fun j u hu => by rw [Addr.add_mid]; exact h6 j u hu
  exact ⟨Cs, ⟨hkind, fun _ => rfl, run_firstCells_some w _ _ _ _ _ Cs h4 hcell, run_firstCells_some w.drew _ _ _ _ _ Cs h4 (by simpa using hcell), h4, h5⟩, h3⟩
 ·subst hx
  subst hn
  obtain ⟨_, hs⟩ := cG hs
  cases hs
  exact ⟨[], ⟨hkind, fun _ => rfl, run_firstCells_none w _ _ _ _, run_firstCells_none w.drew _ _ _ _, by simp, fun _ h => by cases h⟩, dD.2 rfl⟩
 ·obtain ⟨A, c, rfl⟩ := hx
  subst hn
  obtain ⟨_, hs⟩ := cG hs
  cases hs
  exact ⟨[], ⟨hkind, fun _ => rfl, run_firstCells_some w _ _ _ _ _ [] (by simp) (fun j u h => by simp at h), run_firstCells_some w.drew _ _ _ _ _ [] (by simp) (fun j u h => by simp at h), by simp, fun _ h => by cases h⟩, dD.2 rfl⟩
theorem oB {t u ty e : TypeId} {i : TypeInfo} {Z : Value} (ht : P.underlying t = some (.slice e)) (hi : P.info? e = some i) (hZ : i.zero = some Z) (hzs : Z.cells.size = i.size) (hR : kT P σ S w)
  {base : Option Addr} {sLen sCap n : Nat} {old new : List AV} {Olds News : List Value} (hO : gO P σ old Olds) (hO1 : ∀ u ∈ Olds, u.oneCell' = true) (hOl : Olds.length = sLen * i.size)
  (hold : (Builtin.firstCells i.size sLen (.slice base sLen sCap)).run P w.drew = .ok Olds.toArray w.drew) {X : Value} (hs : Src P i.size u X n News w) (hN : gO P σ new News)
  (hg : sCap < sLen + n) (h1 : sLen + n ≤ room) (h2 : (sLen + n) * i.bytes ≤ room) :
  ∃ V w' σ', (Builtin.append_ #[t, u] ty #[.slice base sLen sCap, X]).run P w = .ok V w' ∧ Rv P σ' (.sl S.nx 0 (sLen + n) (sLen + n) true) V ∧
   jI P σ S w σ' ⟨S.h.set S.nx (some (.cells (tM old new) true i.size)), Nat.succ S.nx⟩ w' := by
 unfold room at h1 h2
 have hrun := run_append_grow_src w t u ty e i Z ht hi hZ base sLen sCap Olds hold X n News hs hg (by omega) (growslice_fits hg (by omega))
 have hge := grownCap_ge w (sLen + n) sCap e
 generalize hcap : grownCap w (sLen + n) sCap e = cap at hrun hge
 have hid := hR.fresh S.nx (Af _)
 refine ⟨_, _, upd σ S.nx ⟨w.heap.size, 0, cap - (sLen + n)⟩, hrun, ?_, ?_⟩
 ·simp only [Rv]
  refine ⟨_, upd_same _ _, ?_⟩
  simp only [El, Bj]
  congr 1
  omega
 ·refine jI.alloc hR (ob := .cells ((Olds ++ News).toArray ++ Builtin.zeroCells Z.cells (cap - (sLen + n))) e) rfl rfl rfl rfl ?_ trivial
  refine rZ (C := Olds ++ News) (X := (Builtin.zeroCells Z.cells (cap - (sLen + n))).toList) (t := e) (fz := (0, 0)) ?_ (.inr rfl) ?_ ?_ (fun _ => ?_)
  ·show w.heap.push _ = _
   congr 2
   apply Array.ext'
   simp
  ·rw [fM]
   exact (hO.append hN).mono (fQ hid)
  ·intro u hu
   rcases Bh.1 hu with hu | hu
   ·exact hO1 u hu
   ·exact hs.one u hu
  ·simp [Builtin.zeroCells, hzs]
theorem aDw {t u ty e : TypeId} {i : TypeInfo} {z : List AV} (he : nT P t = some (e, i)) (hu : aJ2 P u i = true) (hz : lA P e i = some z) (hR : kT P σ S w)
  {s x : AV} {Sv X : Value} (hs : Rv P σ s Sv) (hx : Rv P σ x X) {v : AV} {S' : St} (h : gF i.bytes i.size s x S = some (v, S')) :
  ∃ V w' σ', (Builtin.append_ #[t, u] ty #[Sv, X]).run P w = .ok V w' ∧ Rv P σ' v V ∧ jI P σ S w σ' S' w' := by
 obtain ⟨ht, hi⟩ := qG he
 obtain ⟨Z, hZ, _, _, hzs, _⟩ := nM (σ := σ) hi hz
 obtain ⟨n, hn, hh⟩ := aK h
 clear h
 obtain ⟨new, hnew, h⟩ := aK hh
 clear hh
 obtain ⟨News, hsrc, hN⟩ := aHt hu hR hx hn hnew
 have hnl := hsrc.newsLen
 have hnothing : n = 0 → Src P i.size u X 0 [] w := fun h0 => by
  subst h0
  have : News = [] := List.eq_nil_of_length_eq_zero (by simpa using hnl)
  subst this
  exact hsrc
 cases s <;> simp only [yS, reduceCtorEq] at h
 case nilsl =>
  simp only [Rv] at hs
  subst hs
  unfold oS at h
  rw [cH] at h
  split at h
  ·rename_i h0
   rw [Bd] at h0
   cases h
   exact ⟨_, w, σ, run_append_nothing w t u ty e i ht hi none 0 0 (Af _) X (hnothing h0), by simp only [Rv], jI.refl hR⟩
  ·rename_i h0
   rw [Bd] at h0
   obtain ⟨h1, h⟩ := cG h
   obtain ⟨h2, h⟩ := cG h
   cases h
   have h1 := Ay h1
   have h2 := Ay h2
   have := oB (ty := ty) ht hi hZ hzs hR (base := none) (sLen := 0) (sCap := 0) (old := []) (Olds := []) (dD.2 rfl) (by simp) (by simp) (run_firstCells_none w.drew _ _ _ _) hsrc hN (by omega) (by simpa using h1) (by simpa using h2)
   simpa [fM] using this
 case emp =>
  simp only [Rv] at hs
  obtain ⟨A, c, rfl⟩ := hs
  obtain ⟨h0, h⟩ := cG h
  rw [Bd] at h0
  cases h
  exact ⟨_, w, σ, run_append_nothing w t u ty e i ht hi (some A) 0 c (Ci _) X (hnothing h0), by simp only [Rv]; exact ⟨A, c, rfl⟩, jI.refl hR⟩
 case sl b off len cap o =>
  have hs' := hs
  simp only [Rv] at hs
  obtain ⟨L, hL, rfl⟩ := hs
  unfold jU at h
  rw [cH] at h
  split at h
  ·rename_i hfit
   have hfit := Ay hfit
   have hcap : len + n ≤ if o = true then cap + L.e else cap := by split <;> omega
   rw [cH] at h
   split at h
   ·rename_i h0
    rw [Bd] at h0
    cases h
    exact ⟨_, w, σ, run_append_nothing w t u ty e i ht hi _ len _ (by omega) X (hnothing h0), hs', jI.refl hR⟩
   ·obtain ⟨S1, hst, h⟩ := aK h
    cases h
    obtain ⟨L', hL', hth, hext⟩ := zK hR hN hsrc.one hst
    rw [hL] at hL'; cases hL'
    have hrun := run_append_room_src w t u ty e i ht hi L.r (L.d + off) len (if o = true then cap + L.e else cap) X n News hsrc hcap
     (fun j hj => by have := (hth j hj).1; rwa [show L.d + off + len * i.size = L.d + (off + len * i.size) by omega])
     (fun j hj => by have := (hth j hj).2; rwa [show L.d + off + len * i.size = L.d + (off + len * i.size) by omega])
    refine ⟨_, _, σ, hrun, by simp only [Rv]; exact ⟨L, hL, rfl⟩, ?_⟩
    rw [show L.d + off + len * i.size = L.d + (off + len * i.size) by omega]
    exact hext
  ·rename_i hfit
   rw [Et] at hfit
   obtain ⟨h1, h⟩ := cG h
   obtain ⟨h2, h⟩ := cG h
   obtain ⟨bl, hb, h⟩ := aK h
   have h1 := Ay h1
   have h2 := Ay h2
   obtain ⟨L', hL', hLr, hblk⟩ := hR.blk b bl hb
   rw [hL] at hL'; cases hL'
   have hold : ∀ (cs : List AV) (Cs : List Value), gO P σ cs Cs → (∀ u ∈ Cs, u.oneCell' = true) → w.rangeAt L.r L.d Cs → ∀ old, cut cs off (len * i.size) = some old →
     ∃ Olds, gO P σ old Olds ∧ (∀ u ∈ Olds, u.oneCell' = true) ∧ Olds.length = len * i.size ∧ w.rangeAt L.r (L.d + off) Olds ∧ Olds = (Cs.drop off).take (len * i.size) ∧
      ∀ c, (Builtin.firstCells i.size len (.slice (some ⟨L.r, L.d + off, none⟩) len c)).run P w.drew = .ok Olds.toArray w.drew := by
    intro cs Cs hC hC1 hC2 old hcut
    have hc := hC.cut hcut
    have hr := aCb (i := off) (n := len * i.size) hC2
    exact ⟨_, hc.1, fun u hu => hC1 u (Eh (Dx hu)), hc.2, hr, rfl, fun c => run_firstCells_some w.drew _ _ _ _ _ _ hc.2 (fun j u hu => by
     rw [Addr.add_mid]
     simpa using hr j u hu)⟩
   cases bl <;> simp only [tQ, reduceCtorEq] at h
   ·rename_i cs o' sz
    obtain ⟨Cs, hC, hC1, hC2, hC3⟩ := hblk
    obtain ⟨old, hcut, h⟩ := aK h
    obtain ⟨Olds, hO, hO1, hOl, hO2, hOe, hOf⟩ := hold cs Cs hC hC1 hC2 old hcut
    cases o with
    | false =>
     rw [aL] at h
     cases h
     simp only [Bb, Dy]
     exact oB ht hi hZ hzs hR hO hO1 hOl (hOf cap) hsrc hN (by omega) h1 h2
    | true =>
     rw [aF] at h
     obtain ⟨ho', g1⟩ := cG h
     obtain ⟨hsz, g2⟩ := cG g1
     obtain ⟨hend, g3⟩ := cG g2
     clear h g1 g2
     subst ho'
     rw [Bd] at hsz hend
     rw [gG] at hend
     subst hsz
     cases g3
     simp only [El]
     have hCl := hC.length
     by_cases hin : len + n ≤ cap + L.e
     ·-- in place
      have hthere : ∀ j, j < News.length → (w.cell? ⟨L.r, L.d + off + len * i.size + j, none⟩).isSome = true ∧ w.frozen? ⟨L.r, L.d + off + len * i.size + j, none⟩ = false := by
       intro j hj
       have hb1 : off + len * i.size + j < Cs.length + L.e * i.size := by
        have e1 : (len + n) * i.size ≤ (cap + L.e) * i.size := Bu _ hin
        rw [Dq, Dq] at e1
        omega
       have := hC3 (off + len * i.size + j) (by simpa using hb1)
       rwa [show L.d + (off + len * i.size + j) = L.d + off + len * i.size + j by omega] at this
      have hrun := run_append_room_src w t u ty e i ht hi L.r (L.d + off) len (cap + L.e) X n News hsrc hin (fun j hj => (hthere j hj).1) (fun j hj => (hthere j hj).2)
      have hid := hR.fresh S.nx (Af _)
      refine ⟨_, _, upd σ S.nx ⟨L.r, L.d + off, cap + L.e - (len + n)⟩, hrun, ?_, ?_⟩
      ·simp only [Rv]
       refine ⟨_, upd_same _ _, ?_⟩
       simp only [El, Bj]
       congr 1
       omega
      ·obtain ⟨e1, e2, e3⟩ := os_setCells L.r News (L.d + off + len * i.size) w
       refine jI.rename hR hb trivial trivial hL rfl (fun r hr => heap_setCells_other L.r News _ w r hr) (size_setCells L.r News _ w) e1 e2 e3 ?_
       refine ⟨Olds ++ News, ?_, ?_, fun j v hv => ?_, fun j hj => ?_⟩
       ·rw [fM]; exact (hO.append hN).mono (fQ hid)
       ·intro u hu
        rcases Bh.1 hu with hu | hu
        ·exact hO1 u hu
        ·exact hsrc.one u hu
       ·by_cases hj : j < Olds.length
        ·rw [An hj] at hv
         rw [World.cell?_setCells_out L.r News _ w _ (fun _ _ => .inl (by simp only; omega))]
         exact hO2 j v hv
        ·rw [Ao (by omega)] at hv
         have hj2 := (Ai.1 hv).1
         have := World.cell?_setCells_in L.r News (L.d + off + len * i.size) w (fun k hk => (hthere k hk).1) (j - Olds.length) hj2
         rw [show L.d + off + len * i.size + (j - Olds.length) = L.d + off + j by omega] at this
         simp only
         rw [this]
         rw [Ab hj2] at hv
         exact hv
       ·have e4 : (len + n) * i.size + (cap + L.e - (len + n)) * i.size = (cap + L.e) * i.size := by rw [← Dq]; congr 1; omega
        have e5 : (len + n) * i.size = len * i.size + n * i.size := Dq _ _ _
        have e6 : (cap + L.e) * i.size = cap * i.size + L.e * i.size := Dq _ _ _
        simp only [Ah, El] at hj
        have := hC3 (off + j) (by simp only [El]; omega)
        rw [← Ct] at this
        exact ⟨World.isSome_setCells L.r News _ w _ this.1, by rw [World.frozen?_setCells]; exact this.2⟩
     ·-- a new row; the old name is given up
      have hdrop := jI.drop hR b
      obtain ⟨V, w', σ', h5, h6, h7⟩ := oB (S := ⟨S.h.set b none, S.nx⟩) (ty := ty) ht hi hZ hzs hdrop.rep hO hO1 hOl (hOf (cap + L.e)) hsrc hN (by omega) h1 h2
      exact ⟨V, w', σ', h5, h6, hdrop.trans h7⟩
   ·rename_i cs
    obtain ⟨Cs, hC, hC1, hC2⟩ := hblk
    cases o with
    | true => simp [aF] at h
    | false =>
     rw [aL] at h
     obtain ⟨old, hcut, h⟩ := aK h
     obtain ⟨Olds, hO, hO1, hOl, hO2, hOe, hOf⟩ := hold cs Cs hC hC1 hC2 old hcut
     cases h
     simp only [Bb, Dy]
     exact oB ht hi hZ hzs hR hO hO1 hOl (hOf cap) hsrc hN (by omega) h1 h2
end Go.Ev
namespace Go.Ev
variable {P : Program} {σ : Env} {S : St} {w : World}
def lV (_ : Program) : Prop := True
theorem aFh {r : Nat} {ob old : Obj} (h : w.heap[r]? = some old) (hc : ∀ c e f, old ≠ .cells c e f) : (setObj r ob).run P w = .ok () { w with heap := w.heap.setIfInBounds r ob } := by
 simp only [setObj, Sem.run, h]
theorem aFA {r : Nat} {ob : Obj} (h : w.heap[r]? = some ob) (hc : ∀ c e f, ob ≠ .cells c e f) : (getObj r).run P w = .ok ob w := by
 simp only [getObj, Sem.run, h]
def oR (P : Program) (R : Value → World → Prop) : Result Next → Prop
 | .ok (.value v) w' => R v w'
 | .ok .skip w' => R undef w'
 | .ok (.enter f args) w' => CallsIn Fence.wide 0 P f args w' fun
   | .returned v, w'' => R v w''
   | _, _ => False
 | .ok (.round l f tmps assign body) w' => RoundIn Fence.wide 0 P l f tmps assign body w' fun
   | .returned v, w'' => R v w''
   | _, _ => False
 | _ => False
def lI (P : Program) (call : eI) : Prop := ∀ (f : AV) (args : List AV) (S : St) (v : AV) (S' : St), call f args S = some (v, S') → ∀ (σ : Env) (w : World) (fv : Value) (Args : List Value),
 Rv P σ f fv → gO P σ args Args → kT P σ S w → oR P (fun V w' => ∃ σ', Rv P σ' v V ∧ jI P σ S w σ' S' w') ((do let d ← Deferred.ofValue fv ⟨Args⟩; invoke d.target d.args : Sem Next).run P w)
theorem aI3 {t : TypeId} {agg : Bool} {n : Nat} (ht : aAa P t = some (agg, n)) (hR : kT P σ S w) {x y : AV} {X Y : Value} (hx : Rv P σ x X) (hy : Rv P σ y Y) {cs : List AV} (hcs : y.cells = some cs) {v : AV} {S' : St}
  (h : nQ x n cs S = some (v, S')) : v = .undef ∧ ∃ w', (Instr.storeAt t X Y).run P w = .ok () w' ∧ jI P σ S w σ S' w' := by
 obtain ⟨d, i, hu, hi, hn, hd⟩ := yI ht
 cases x <;> simp only [nQ, reduceCtorEq] at h
 obtain ⟨hl, h⟩ := cG h
 obtain ⟨S1, hst, h⟩ := aK h
 cases h
 refine ⟨rfl, ?_⟩
 simp only [Rv] at hx
 obtain ⟨L, hL, rfl⟩ := hx
 obtain ⟨hc1, hc2⟩ := wM hy hcs
 obtain ⟨L', hL', hth, hext⟩ := zK hR hc1 hc2 hst
 rw [hL] at hL'; cases hL'
 rw [gG, Bd] at hl
 refine ⟨_, ?_, hext⟩
 have hsz : Y.cells.size = i.size := by have := hc1.length; simp at this; omega
 have hrun := run_storeCells_cells (P := P) L.r (L.d + _) Y.cells.toList 0 w (fun j hj => by simpa using (hth j hj).1) (fun j hj => by simpa using (hth j hj).2) hc2
 simp only [Bj] at hrun
 simp [Instr.storeAt, Instr.sureAddr, storeVar, sizeOf, typeInfo, hi, hsz, hrun]
theorem aCD (hA : vF P) (hB : lV P) {call : eI} (hcall : lI P call) {o : Oper} {xo : XOp} (hc : xD P o.op = some (.x xo)) {F : Fr} {a : Act} (hF : oZ P σ F a.tmps) (hR : kT P σ S w) {v : AV} {S' : St}
  (hv : vV xo call F S = some (v, S')) : oR P (fun V w' => ∃ σ', Rv P σ' v V ∧ jI P σ S w σ' S' w') ((execOp a.eval o).run P w) := by
 obtain ⟨dst, op, type, pos, after, guard⟩ := o
 simp only at hc
 have hundef : ∀ σ', Rv P σ' .undef undef := fun σ' => by simp only [AV.undef, undef, Rv]; exact ⟨[], rfl, dD.2 rfl⟩
 cases op <;> (try (first | (obtain ⟨y, _, h2⟩ := dK hc; cases h2; done) | (obtain ⟨y, _, h2⟩ := mH hc; cases h2; done) | (cases hc; done)))
 case store t x y =>
  obtain ⟨z, h1, h2⟩ := mY hc; cases h2
  obtain ⟨⟨agg, n⟩, hag, h1⟩ := bG h1
  obtain ⟨X, hX, h1⟩ := bG h1
  obtain ⟨Y, hY, h1⟩ := bG h1; cases h1
  obtain ⟨cs, h3, h4⟩ := aK (show (bE (Y.val F).cells fun cs => nQ (X.val F) n cs S) = some (v, S') from hv)
  obtain ⟨rfl, w', h5, h6⟩ := aI3 hag hR (cN hF hR hX) (cN hF hR hY) h3 h4
  simp only [execOp, Sem.run_bind, h5, Result.andThen_ok, Sem.run_pure]
  exact ⟨σ, hundef σ, h6⟩
 case call c =>
  obtain ⟨callee, args, argTypes⟩ := c
  cases callee with
  | value f =>
   simp only [xD] at hc
   split at hc
   ·cases hc
   ·obtain ⟨y, h1, h2⟩ := mY hc; cases h2
    obtain ⟨Fo, hFo, h1⟩ := bG h1
    obtain ⟨As, hAs, h1⟩ := bG h1; cases h1
    have := hcall _ _ _ _ _ hv σ w _ _ (cN hF hR hFo) (mE hF hR hAs) hR
    have he : (args.map a.eval) = ⟨args.toList.map a.eval⟩ := by apply Array.ext'; simp
    simp only [execOp, resolve, he]
    exact this
  | invoke r m => cases hc
  | builtin b =>
   have arr : ∀ {α : Type} {x : Array α} {l : List α}, x.toList = l → x = l.toArray := fun h => by apply Array.ext'; rw [h]
   simp only [xD] at hc
   split at hc
   ·split at hc
    all_goals (first | (obtain ⟨y, _, h2⟩ := dK hc; cases h2; done) | (cases hc; done))
   ·obtain ⟨y, _, h2⟩ := dK hc; cases h2
   ·obtain ⟨y, _, h2⟩ := dK hc; cases h2
   ·rename_i s x t u hx ht
    have := arr hx; subst this
    have := arr ht; subst this
    split at hc
    ·rename_i e i he
     rw [Bp] at hc
     split at hc
     ·rename_i hcond
      rw [Dp] at hcond
      obtain ⟨z, hz⟩ := Option.isSome_iff_exists.1 hcond.2
      obtain ⟨y, h1, h2⟩ := mY hc; cases h2
      obtain ⟨So, hS, h1⟩ := bG h1
      obtain ⟨Xo, hX, h1⟩ := bG h1; cases h1
      obtain ⟨V, w', σ', h3, h4, h5⟩ := aDw (ty := type) he hcond.1 hz hR (cN hF hR hS) (cN hF hR hX) hv
      have hex : (execOp a.eval ⟨dst, .call ⟨.builtin .append, #[s, x], #[t, u]⟩, type, pos, after, guard⟩).run P w = .ok (.value V) w' := by
       simp [execOp, resolve, invoke, builtin, h3]
      have hex' : (execOp a.eval ⟨dst, .call ⟨.builtin .append, [s, x].toArray, [t, u].toArray⟩, type, pos, after, guard⟩).run P w = .ok (.value V) w' := hex
      rw [hex']
      exact ⟨σ', h4, h5⟩
     ·cases hc
    ·cases hc
   ·cases hc
 case makeFunc fn x y =>
  cases fn <;> (first | (obtain ⟨y, _, h2⟩ := dK hc; cases h2; done) | (cases hc; done))
 all_goals
  simp only [xD, Bp] at hc
  (repeat' split at hc) <;> first
   | (obtain ⟨y, _, h2⟩ := dK hc; cases h2; done)
   | (obtain ⟨y, _, h2⟩ := mH hc; cases h2; done)
   | (cases hc; done)
end Go.Ev
namespace Go.Ev
variable {P : Program} {σ : Env} {S : St} {w : World}
def Fw (ro : Option Nat) : Fence := { Fence.wide with round := ro }
theorem aD6 {ro : Option Nat} {n m : Nat} {f : FuncId} {args : Array Value} {R : Ending → World → Prop} (h : CallsIn Fence.wide m P f args w R) : CallsIn (Fw ro) n P f args w R :=
 ⟨trivial, fun cs _ => h.2 cs (room_wide _)⟩
theorem aEc {ro : Option Nat} {n m l : Nat} {f : FuncId} {tmps : Array Value} {as bd : Code} {R : Ending → World → Prop} (h : RoundIn Fence.wide m P l f tmps as bd w R) : RoundIn (Fw ro) n P l f tmps as bd w R :=
 ⟨trivial, fun c cs _ => h.2 c cs (room_wide _)⟩
theorem oR.mono {R R' : Value → World → Prop} {r : Result Next} (h : oR P R r) (hr : ∀ v w, R v w → R' v w) : oR P R' r := by
 unfold oR at *
 split at h
 ·exact hr _ _ h
 ·exact hr _ _ h
 ·exact CallsIn.mono h fun e w' he => by cases e <;> first | exact hr _ _ he | exact he
 ·exact RoundIn.mono h fun e w' he => by cases e <;> first | exact hr _ _ he | exact he
 ·exact h.elim
theorem wG {ro : Option Nat} {n : Nat} {o : Oper} {a : Act} {next : Act → World → Prop} {Q : Exit → Act → World → Prop} {R : Value → World → Prop} {r : Result Next} (h : oR P R r)
  (hr : ∀ v w, R v w → next (a.put o.dst v) w) : o.uponIn (Fw ro) n P a next Q r := by
 unfold oR at h
 split at h
 ·exact hr _ _ h
 ·exact hr _ _ h
 ·refine ⟨fun hd => by simp [Fw, Fence.wide] at hd, aD6 (CallsIn.mono h fun e w' he => ?_)⟩
  cases e with
  | returned v => exact hr _ _ he
  | panicked c => exact he.elim
  | outgrown => exact he.elim
 ·refine ⟨fun hd => by simp [Fw, Fence.wide] at hd, aEc (RoundIn.mono h fun e w' he => ?_)⟩
  cases e with
  | returned v => exact hr _ _ he
  | panicked c => exact he.elim
  | outgrown => exact he.elim
 ·exact h.elim
theorem aGv (t : Nat) (F : Fr) : aC t F = (F.get t).getD .undef := by
 unfold aC
 cases F.get t <;> rfl
theorem wQ (F : Fr) (d t : Nat) (v : AV) : aC t (F.set d (some v)) = if t = d then v else aC t F := by
 rw [aGv, T.get_set]
 split
 ·rfl
 ·rw [aGv]
theorem oZ.put {F : Fr} {a : Act} {d : Option Tmp} {v : AV} {V : Value} (hF : oZ P σ F a.tmps) (hd : tS a.tmps.size d = true) (hv : Rv P σ v V) : oZ P σ (cJ d F v) (a.put d V).tmps := by
 cases d with
 | none => exact hF
 | some d =>
  have hlt : d < a.tmps.size := Ay hd
  refine ⟨fun t => ?_⟩
  show Rv P σ (aC t (F.set d (some v))) _
  rw [wQ]
  simp only [Act.put, Bi, Array.getElem?_setIfInBounds]
  split
  ·rename_i e; subst e; simp; exact hv
  ·rename_i hne; rw [if_neg (Cr hne)]; have := hF.get t; simpa [Bi] using this
theorem aAR (a : Act) (d : Option Tmp) (V : Value) : (a.put d V).tmps.size = a.tmps.size := by cases d <;> simp [Act.put]
theorem put_defers (a : Act) (d : Option Tmp) (V : Value) : (a.put d V).defers = a.defers := by cases d <;> rfl
theorem zY {ops : Array Oper} {o : Oper} {g : Option (Nat × Bool)} (hg : xJ ops o.guard = some g) {F : Fr} {tmps : Array Value} (hF : oZ P σ F tmps) : Region.wanted o (yielded ops tmps) = eH g F := by
 unfold Region.wanted
 cases ho : o.guard with
 | none =>
  rw [ho] at hg
  simp only [xJ, Ar] at hg
  subst hg
  rfl
 | some jw =>
  obtain ⟨j, want⟩ := jw
  rw [ho] at hg
  simp only [xJ] at hg
  split at hg
  ·rename_i d hd
   cases hg
   show (yielded ops tmps j == some want) = isB (aC d F) want
   have hv := hF.get d
   unfold yielded
   rw [hd]
   simp only [Option.bind_some]
   have hgd : tmps.getD d undef = (tmps[d]?).getD undef := Bi ..
   rw [hgd] at hv
   cases ht : tmps[d]? with
   | none =>
    rw [ht] at hv
    simp only [Option.getD_none] at hv
    cases hb : aC d F <;> rw [hb] at hv <;> simp only [isB] <;> first | rfl | (simp only [Rv, undef, reduceCtorEq] at hv)
   | some X =>
    rw [ht] at hv
    simp only [Option.getD_some] at hv
    cases hb : aC d F <;> rw [hb] at hv <;> simp only [isB] <;> simp only [Rv] at hv
    case bool b => subst hv; simp only [tI]; cases b <;> cases want <;> rfl
    all_goals first
     | (subst hv; rfl)
     | (obtain ⟨rfl, _⟩ := hv; rfl)
     | (obtain ⟨L, _, rfl⟩ := hv; rfl)
     | (obtain ⟨A, c, rfl⟩ := hv; rfl)
     | (obtain ⟨A, B, rfl, _⟩ := hv; rfl)
     | (obtain ⟨A, rfl, _⟩ := hv; rfl)
  ·cases hg
theorem semAt_eq {o : Oper} {r : Option Nat} {ρ : Operand → Value} (h : ∀ c, o.op ≠ .defer c) : o.semAt r ρ = execOp ρ o := by
 unfold Oper.semAt
 split
 ·rename_i h1; exact absurd h1 (h _)
 ·rfl
theorem oE {op : Op} {r : AOp} (h : xD P op = some r) : ∀ c, op ≠ .defer c := by
 rintro c rfl
 cases h
theorem uD {nt : Nat} {ops : Array Oper} {o : Oper} {m : Nat} {ao : AO} (h : aGD P nt ops o m = some ao) :
  tS nt o.dst = true ∧ xJ ops o.guard = some ao.grd ∧ ao.dst = o.dst ∧ ao.mask = m ∧ (xD P o.op = some ao.op ∨ ao.op = .x .bad) := by
 unfold aGD at h
 rw [Bp] at h
 split at h
 ·rename_i hd
  split at h
  ·rename_i g hg
   split at h
   ·rename_i op hop; cases h; exact ⟨hd, hg, rfl, rfl, .inl hop⟩
   ·cases h; exact ⟨hd, hg, rfl, rfl, .inr rfl⟩
  ·cases h
 ·cases h
theorem aFx (hA : vF P) (hB : lV P) {call : eI} (hcall : lI P call) {ao : AO} {o : Oper} (hop : xD P o.op = some ao.op ∨ ao.op = .x .bad) {F F' : Fr} {a : Act} (hdst : ao.dst = o.dst) (hd : tS a.tmps.size o.dst = true)
  (hF : oZ P σ F a.tmps) (hR : kT P σ S w) {S' : St} (h : oOp ao.op ao.dst call F S = some (F', S')) :
  (∀ c, o.op ≠ .defer c) ∧ oR P (fun V w' => ∃ σ', oZ P σ' F' (a.put o.dst V).tmps ∧ jI P σ S w σ' S' w') ((execOp a.eval o).run P w) := by
 rcases hop with hop | hop
 ·refine ⟨oE hop, ?_⟩
  cases hao : ao.op with
  | q qo =>
   rw [hao] at h hop
   obtain ⟨v, h1, h2⟩ := aK (show (bE (gR qo F S.h) fun v => some (cJ ao.dst F v, S)) = some (F', S') from h)
   cases h2
   obtain ⟨V, h3, h4⟩ := aCN hA hop hF hR h1
   rw [h3]
   exact ⟨σ, by rw [hdst]; exact hF.put hd h4, jI.refl hR⟩
  | a al =>
   rw [hao] at h hop
   obtain ⟨⟨v, bl⟩, h1, h2⟩ := aK (show (bE (rO al F S.nx) fun r => some (cJ ao.dst F r.1, (⟨S.h.set S.nx (some r.2), Nat.succ S.nx⟩ : St))) = some (F', S') from h)
   cases h2
   obtain ⟨V, w', h3, ob, e, m1, m2, m3, m4, m5, m6, m7⟩ := aCo hop hF hR S.nx (hR.fresh _ (Af _)) h1
   rw [h3]
   have hext := jI.alloc hR m1 m2 m3 m4 m5 m6
   exact ⟨_, by rw [hdst]; exact (hF.mono (hext.mono hR)).put hd m7, hext⟩
  | x xo =>
   rw [hao] at h hop
   obtain ⟨⟨v, S1⟩, h1, h2⟩ := aK (show (bE (vV xo call F S) fun r => some (cJ ao.dst F r.1, r.2)) = some (F', S') from h)
   cases h2
   refine (aCD hA hB hcall hop hF hR h1).mono ?_
   rintro V w' ⟨σ', h3, h4⟩
   exact ⟨σ', by rw [hdst]; exact (hF.mono (h4.mono hR)).put hd h3, h4⟩
 ·rw [hop] at h
  obtain ⟨r, h1, _⟩ := aK (show (bE (vV .bad call F S) fun r => some (cJ ao.dst F r.1, r.2)) = some (F', S') from h)
  cases h1
theorem fW (o : AO) (os : List AO) (call : eI) (F : Fr) (S : St) : rJ (o :: os) call F S = bE (aAZ o call F S) fun r => rJ os call r.1 r.2 := rfl
theorem rX (hA : vF P) (hB : lV P) {call : eI} (hcall : lI P call) {ro : Option Nat} {n nt : Nat} {ops : Array Oper} {Q : Exit → Act → World → Prop} :
  ∀ (l : List Oper) (k : Nat) (ms : List Nat) (aos : List AO) (σ : Env) (F F' : Fr) (S S' : St) (a : Act) (w : World), (∀ j, l[j]? = ops[k + j]?) → qS P nt ops l ms = some aos → a.tmps.size = nt → oZ P σ F a.tmps → kT P σ S w →
   rJ aos call F S = some (F', S') → (∀ σ' a' w', oZ P σ' F' a'.tmps → a'.tmps.size = nt → a'.defers = a.defers → jI P σ S w σ' S' w' → Q .normal a' w') →
   wpOpsIn (Fw ro) n P ops Q (List.range' k l.length) a w
 | [], k, ms, aos, σ, F, F', S, S', a, w, hl, hc, hn, hF, hR, h, hQ => by
  simp only [qS, Ar] at hc
  subst hc
  cases h
  exact hQ σ a w hF hn rfl (jI.refl hR)
 | o :: l, k, ms, aos, σ, F, F', S, S', a, w, hl, hc, hn, hF, hR, h, hQ => by
  simp only [qS] at hc
  split at hc
  ·rename_i ao aos' hao haos
   cases hc
   obtain ⟨hd, hg, hdst, _, hop⟩ := uD hao
   rw [fW] at h
   obtain ⟨⟨F1, S1⟩, h1, h2⟩ := aK h
   have ho : ops[k]? = some o := by have := hl 0; simpa using this.symm
   have hl' : ∀ j, l[j]? = ops[(k + 1) + j]? := fun j => by have := hl (j + 1); simpa [Ct, Nat.add_comm 1 j] using this
   simp only [Az, List.range'_succ, wpOpsIn, ho]
   rw [zY hg hF]
   unfold aAZ at h1
   rw [cH] at h1
   have hd' : tS a.tmps.size o.dst = true := by rw [hn]; exact hd
   split at h1
   ·rename_i hw
    rw [if_pos hw]
    obtain ⟨hnd, hnext⟩ := aFx hA hB hcall hop hdst hd' hF hR h1
    refine ⟨fun _ _ => trivial, ?_⟩
    rw [semAt_eq hnd]
    refine wG hnext ?_
    rintro V w' ⟨σ1, hF1, hE1⟩
    exact rX hA hB hcall l (k + 1) ms.tail aos' σ1 F1 F' S1 S' _ w' hl' haos (by rw [aAR]; exact hn) hF1 hE1.rep h2 (fun σ' a' w'' q1 q2 q3 q4 => hQ σ' a' w'' q1 q2 (by rw [q3, put_defers]) (hE1.trans q4))
   ·rename_i hw
    rw [if_neg hw]
    cases h1
    refine ⟨fun _ _ => trivial, ?_⟩
    have hund : Rv P σ .undef undef := by simp only [AV.undef, undef, Rv]; exact ⟨[], rfl, dD.2 rfl⟩
    exact rX hA hB hcall l (k + 1) ms.tail aos' σ _ F' S S' _ w hl' haos (by rw [aAR]; exact hn) (by rw [hdst]; exact hF.put hd' hund) hR h2 (fun σ' a' w'' q1 q2 q3 q4 => hQ σ' a' w'' q1 q2 (by rw [q3, put_defers]) q4)
  ·cases hc
end Go.Ev
