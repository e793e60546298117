/- Contracts (6): rational numbers, the statements' tools, the law. -/
import Derived.Test.YtffbfglbdghpaaaGreatDoorGl5
set_option maxHeartbeats 4000000
set_option linter.unusedSimpArgs false
set_option linter.unusedVariables false
namespace Go.Ev.Gl
variable {fns : T AFn}

/-! ## Games, plain -/
structure PNode where
  kind : Int
  player : Int
  info : Int
  next : List Int
  weights : List Int
  pay : List Int
structure PInfo where
  player : Int
  actions : Int
structure PGame where
  players : Int
  nodes : List PNode
  infos : List PInfo
/-- a number out of a range -/
def anyOut (lo hi : Int) (l : List Int) : Prop := ∃ w ∈ l, w < lo ∨ hi < w
instance anyOutDec (lo hi : Int) (l : List Int) : Decidable (anyOut lo hi l) := by unfold anyOut; exact inferInstance
def badC (x : PNode) : Prop := x.player ≠ 0 ∨ x.info ≠ 0 ∨ (0 : Int) < ((x.pay.length : Nat) : Int) ∨ ((x.next.length : Nat) : Int) < 1 ∨ (60 : Int) < ((x.next.length : Nat) : Int) ∨ ((x.weights.length : Nat) : Int) ≠ ((x.next.length : Nat) : Int)
def badM (x : PNode) : Prop := (0 : Int) < ((x.weights.length : Nat) : Int) ∨ (0 : Int) < ((x.pay.length : Nat) : Int) ∨ ((x.next.length : Nat) : Int) < 1 ∨ (10 : Int) < ((x.next.length : Nat) : Int)
def badE (ps : Int) (x : PNode) : Prop := x.player ≠ 0 ∨ x.info ≠ 0 ∨ (0 : Int) < ((x.next.length : Nat) : Int) ∨ (0 : Int) < ((x.weights.length : Nat) : Int) ∨ ((x.pay.length : Nat) : Int) ≠ ps
instance badCDec (x : PNode) : Decidable (badC x) := by unfold badC; exact inferInstance
instance badMDec (x : PNode) : Decidable (badM x) := by unfold badM; exact inferInstance
instance badEDec (ps : Int) (x : PNode) : Decidable (badE ps x) := by unfold badE; exact inferInstance
/-! ### in memory -/
def NodeE (S : St) (cs : List AV) (x : PNode) : Prop := ∃ a b c, cs = [.int .i64 x.kind, .int .i64 x.player, .int .i64 x.info, a, b, c] ∧ IsSl .i64 S a x.next ∧ IsSl .i64 S b x.weights ∧ IsSl .i64 S c x.pay
theorem firm_node : Firm NodeE := fun ⟨a, b, c, h, h1, h2, h3⟩ hs => ⟨a, b, c, h, h1.same hs, h2.same hs, h3.same hs⟩
def InfoE (_ : St) (cs : List AV) (x : PInfo) : Prop := cs = [.int .i64 x.player, .int .i64 x.actions]
theorem firm_info : Firm InfoE := fun h _ => h
def GameIs (S : St) (v : AV) (g : PGame) : Prop := ∃ n i, v = .agg [.int .i64 g.players, n, i] ∧ IsSlG 6 NodeE S n g.nodes ∧ IsSlG 2 InfoE S i g.infos
theorem GameIs.same {S S' : St} {v : AV} {g : PGame} (h : GameIs S v g) (hs : Same S S') : GameIs S' v g := by
  obtain ⟨n, i, h1, h2, h3⟩ := h
  exact ⟨n, i, h1, IsSlG.same (E := NodeE) firm_node h2 hs, IsSlG.same (E := InfoE) firm_info h3 hs⟩

/-! ### blocks of cells -/
theorem ldall {h : T AB} {b n : Nat} {cs : List AV} {o : Bool} {s : Nat} (hb : h.get b = some (.cells cs o s)) (hn : cs.length = n) : qLdV (.ptr b 0) true n h = some (.agg cs) := by
  subst hn
  simp only [qLdV, loadV, bsel_true, loadN, cellsAt, hb, osel_some, cellsOfB]
  unfold cut
  rw [takeL_eq, dropL_eq, List.drop_zero, if_pos (Nat.le_refl _), List.take_length]
  rfl
section
variable {h : T AB} {b : Nat} {x0 x1 x2 x3 x4 x5 : AV} {o : Bool} {s : Nat}
end
section
variable {k : Nat} {α : Type} {E : St → List AV → α → Prop} {S : St} {v : AV} {l : List α}
/-- an element: as a whole, by its fields -/
theorem IsSlG.at (h : IsSlG k E S v l) (hk : 0 < k) {i : Nat} {a : α} (hi : l[i]? = some a) : ∃ e b p, iaddrV (.slice k) v i = some (.ptr b p) ∧ b < S.nx ∧ e.length = k ∧ E S e a ∧ qLdV (.ptr b p) true k S.h = some (.agg e) ∧ ∀ j x, e[j]? = some x → qLdV (.ptr b (p + j)) false 1 S.h = some x := by
  obtain ⟨e, b, p, h1, h2, h3, h4, cs, h5, h6⟩ := h.get hi
  have hlt := (List.getElem?_eq_some_iff.1 hi).1
  refine ⟨e, b, p, by rw [← h1]; exact h.iaddr hlt, h2, h3, h4, ?_, fun j x hj => ?_⟩
  · simp only [qLdV, loadV, bsel_true, loadN, h5, osel_some]
    have hcut : cut cs p k = some e := by
      have hle : p + k ≤ cs.length := by
        have := h6 (k - 1) (e[k - 1]'(by omega)) (List.getElem?_eq_getElem (by omega))
        have := (List.getElem?_eq_some_iff.1 this).1
        omega
      unfold cut
      rw [takeL_eq, dropL_eq, if_pos (by rw [List.length_drop]; omega)]
      congr 1
      refine List.ext_getElem (by rw [List.length_take, List.length_drop]; omega) fun j j1 j2 => ?_
      have := h6 j e[j] (List.getElem?_eq_getElem j2)
      rw [List.getElem_take, List.getElem_drop]
      exact (List.getElem?_eq_some_iff.1 this).2
    rw [hcut, osel_some]
  · simp only [qLdV, loadV, bsel_false, load1, h5, osel_some, nth_eq]
    exact h6 j x hj
end
end Go.Ev.Gl

namespace Go.Ev.Gl
variable {fns : T AFn}

/-! ## The reference's error of a node -/
def badM' (x : PNode) : Prop := (0 : Int) < ((x.pay.length : Nat) : Int) ∨ (0 : Int) < ((x.weights.length : Nat) : Int) ∨ ((x.next.length : Nat) : Int) < 1 ∨ (10 : Int) < ((x.next.length : Nat) : Int)
instance badMDec' (x : PNode) : Decidable (badM' x) := by unfold badM'; exact inferInstance
def badR (ps : Int) (ni : Nat) (x : PNode) : Prop := x.player < 0 ∨ ps ≤ x.player ∨ x.info < 0 ∨ ((ni : Nat) : Int) ≤ x.info
instance badRDec (ps : Int) (ni : Nat) (x : PNode) : Decidable (badR ps ni x) := by unfold badR; exact inferInstance
end Go.Ev.Gl
namespace Go.Ev.Gl
variable {fns : T AFn}

/-! ## The program's error of a node -/
theorem IsSl.self {k : IntKind} {S : St} {v : AV} {l : List Int} (h : IsSl k S v l) : sameV v v = true := by
  rcases h with ⟨_, h | h⟩ | ⟨b, off, cap, o, cs, rfl, _⟩
  · subst h; rfl
  · subst h; rfl
  · exact same_sl ..
theorem IsSlG.self {k : Nat} {α : Type} {E : St → List AV → α → Prop} {S : St} {v : AV} {l : List α} (h : IsSlG k E S v l) : sameV v v = true := by
  rcases h with ⟨_, h | h⟩ | ⟨b, off, cap, o, cs, rfl, _⟩
  · subst h; rfl
  · subst h; rfl
  · exact same_sl ..
/-- a walker: the game's cells, three slices -/
def WalkB (S : St) (wb : Nat) (ps : Int) (n i p d l : AV) : Prop := S.h.get wb = some (.cells [.int .i64 ps, n, i, p, d, l] false 0) ∧ wb < S.nx
theorem WalkB.same {S S' : St} {wb : Nat} {ps : Int} {n i p d l : AV} (h : WalkB S wb ps n i p d l) (hs : Same S S') : WalkB S' wb ps n i p d l := ⟨(hs.2 _ h.2).trans h.1, Nat.lt_of_lt_of_le h.2 hs.1⟩
section
variable {S : St} {wb : Nat} {ps : Int} {n i p d l : AV} {ni : Nat} {cs : List AV} {x : PNode}
end
end Go.Ev.Gl
namespace Go.Ev.Gl
variable {fns : T AFn}

section
variable {S : St} {wb : Nat} {ps : Int} {n i p d l : AV} {ni : Nat} {cs : List AV} {x : PNode}
end
end Go.Ev.Gl

namespace Go.Ev.Gl
variable {fns : T AFn}

/-! ## Trees in preorder, plain -/
abbrev Trip := Int × Int × Int
def kidsL (rec : Nat → Option (List Trip)) : List Int → Nat → Option (List Trip)
  | [], _ => some []
  | c :: l, r => if c = (r : Int) then (rec r).bind fun L1 => (kidsL rec l (r + L1.length)).map (L1 ++ ·) else none
/-- the nodes of a subtree: parent, depth, last node -/
def walkL (N : Nat) (nx : Nat → List Int) : Nat → Nat → Int → Int → Option (List Trip)
  | 0, _, _, _ => none
  | f + 1, at_, p, d => if at_ < N then (kidsL (fun r => walkL N nx f r at_ (d + 1)) (nx at_) (at_ + 1)).map fun L => (p, d, ((at_ + L.length : Nat) : Int)) :: L else none
def nextOf (g : PGame) (i : Nat) : List Int := ((g.nodes[i]?).map (·.next)).getD []
theorem IsSlG.tail {k : Nat} {α : Type} {E : St → List AV → α → Prop} {S : St} {v : AV} {a : α} {l : List α} (h : IsSlG k E S v (a :: l)) : ∃ v', (∀ (F : Fr) (x : Opd), natOf (x.val F) = some 1 → slcV (.slice k) v (some x) none none F = some v') ∧ IsSlG k E S v' l := by
  rcases h with ⟨h0, _⟩ | ⟨b, off, cap, o, cs, rfl, hc, hb, hcs, hel⟩
  · cases h0
  · rw [List.length_cons] at hc
    have e1 : Nat.ble cap cap = true := Nat.ble_eq_true_of_le (Nat.le_refl _)
    have e2 : Nat.ble (l.length + 1) cap = true := Nat.ble_eq_true_of_le hc
    have e3 : Nat.ble 1 (l.length + 1) = true := Nat.ble_eq_true_of_le (by omega)
    by_cases h1 : cap = 1
    · have hl : l = [] := List.length_eq_zero_iff.1 (by omega)
      subst hl; subst h1
      have e4 : Nat.beq 1 1 = true := rfl
      refine ⟨bsel o .emp (.sl b off 0 0 false), fun F x hx => ?_, ?_⟩
      · simp only [slcV, slSl, bounds, optNat, osel_some, hx, List.length_cons, List.length_nil]
        cases o <;> rfl
      · cases o with
        | true => exact .inl ⟨rfl, .inr rfl⟩
        | false => exact .inr ⟨b, off, 0, false, cs, rfl, Nat.le_refl _, hb, hcs, fun i a hi => by simp at hi⟩
    · have e4 : Nat.beq cap 1 = false := by rw [Bool.eq_false_iff]; intro h; rw [Nat.beq_eq] at h; omega
      refine ⟨.sl b (off + 1 * k) (l.length + 1 - 1) (cap - 1) o, fun F x hx => ?_, .inr ⟨b, off + 1 * k, cap - 1, o, cs, by simp, by omega, hb, hcs, fun i a' hi => ?_⟩⟩
      · simp only [slcV, slSl, bounds, optNat, osel_some, hx, List.length_cons, e1, e2, e3, bsel_true, e4, bsel_false, Option.isNone_none]
        cases o <;> rfl
      · obtain ⟨e, h1, h2, h3⟩ := hel (i + 1) a' (by simpa using hi)
        refine ⟨e, h1, fun j x hj => ?_, h3⟩
        have := h2 j x hj
        rw [show off + 1 * k + i * k + j = off + (i + 1) * k + j by rw [Nat.add_mul]; omega]
        exact this
end Go.Ev.Gl

namespace Go.Ev.Gl
variable {fns : T AFn}

end Go.Ev.Gl

namespace Go.Ev.Gl
variable {fns : T AFn}

/-! ## Rows of ints in blocks of their own -/
def cells64 (l : List Int) : List AV := l.map (AV.int .i64)
theorem cells64_length (l : List Int) : (cells64 l).length = l.length := by simp [cells64]
theorem st64 {S : St} {b p : Nat} {w : Int} {l : List Int} {o : Bool} {sz : Nat} (h : S.h.get b = some (.cells (cells64 l) o sz)) (hp : p < l.length) : xStV (.ptr b p) 1 [.int .i64 w] S = some (.undef, ⟨S.h.set b (some (.cells (cells64 (l.set p w)) o sz)), S.nx⟩) := by
  have hput : put (cells64 l) p [AV.int .i64 w] = some (cells64 (l.set p w)) := by
    rw [put_eq, if_pos (by rw [cells64_length]; simp; omega)]
    congr 1
    unfold cells64
    rw [List.map_set, List.set_eq_take_append_cons_drop, if_pos (by simp; omega)]
    simp
  simp only [xStV, storeN, h, osel_some, storeB, hput]
  rfl
theorem row_sl {S : St} {b N sz : Nat} {l : List Int} {o : Bool} (h : S.h.get b = some (.cells (cells64 l) o sz)) (hb : b < S.nx) (hl : l.length = N) : IsSl .i64 S (.sl b 0 N N false) l := by
  subst hl
  refine .inr ⟨b, 0, l.length, false, cells64 l, rfl, Nat.le_refl _, hb, by unfold cellsAt; rw [h]; rfl, fun i x hi => ?_⟩
  rw [Nat.zero_add]
  unfold cells64
  rw [List.getElem?_map, hi]
  rfl
theorem row_ia {b N i : Nat} {o : Bool} (hi : i < N) : iaddrV (.slice 1) (.sl b 0 N N o) i = some (.ptr b i) := ia8 hi
/-! ### what a walk leaves in a row -/
def covL (T : List Trip) (a j : Nat) : Option Trip := if a ≤ j then T[j - a]? else none
def RowOf (sel : Trip → Int) (P P' : List Int) (T : List Trip) (a : Nat) : Prop := P'.length = P.length ∧ ∀ j, P'.getD j 0 = ((covL T a j).map sel).getD (P.getD j 0)
theorem RowOf.nil (sel : Trip → Int) (P : List Int) (a : Nat) : RowOf sel P P [] a := ⟨rfl, fun j => by unfold covL; split <;> simp⟩
theorem covL_lt {T : List Trip} {a j : Nat} {t : Trip} (h : covL T a j = some t) : a ≤ j ∧ j < a + T.length := by
  unfold covL at h
  split at h
  · have := (List.getElem?_eq_some_iff.1 h).1
    omega
  · cases h
theorem covL_none {T : List Trip} {a j : Nat} (h : j < a ∨ a + T.length ≤ j) : covL T a j = none := by
  unfold covL
  split
  · exact List.getElem?_eq_none (by omega)
  · rfl
theorem covL_append (T T' : List Trip) (a j : Nat) : covL (T ++ T') a j = (covL T a j).or (covL T' (a + T.length) j) := by
  unfold covL
  by_cases h : a ≤ j
  · rw [if_pos h, if_pos h, List.getElem?_append]
    by_cases h1 : j - a < T.length
    · rw [if_pos h1, if_neg (by omega), List.getElem?_eq_getElem h1]; rfl
    · rw [if_neg h1, if_pos (by omega), List.getElem?_eq_none (l := T) (i := j - a) (by omega), show j - a - T.length = j - (a + T.length) by omega]; rfl
  · rw [if_neg h, if_neg h, if_neg (by omega)]; rfl
theorem RowOf.append {sel : Trip → Int} {P P1 P2 : List Int} {T T' : List Trip} {a : Nat} (h1 : RowOf sel P P1 T a) (h2 : RowOf sel P1 P2 T' (a + T.length)) : RowOf sel P P2 (T ++ T') a := by
  refine ⟨h2.1.trans h1.1, fun j => ?_⟩
  rw [h2.2, h1.2, covL_append]
  cases hc : covL T a j with
  | none => rfl
  | some t =>
    have := covL_lt hc
    rw [covL_none (by omega)]
    rfl
theorem getD_set {P : List Int} {i j : Nat} {v : Int} (hi : i < P.length) : (P.set i v).getD j 0 = if j = i then v else P.getD j 0 := by
  rw [List.getD_eq_getElem?_getD, List.getElem?_set]
  by_cases h : i = j
  · subst h; rw [if_pos rfl, if_pos rfl, if_pos hi]; rfl
  · rw [if_neg h, if_neg (Ne.symm h), List.getD_eq_getElem?_getD]
theorem covL_one (t : Trip) (a j : Nat) : covL [t] a j = if j = a then some t else none := by
  unfold covL
  by_cases h : j = a
  · subst h; simp
  · rw [if_neg h]
    split
    · exact List.getElem?_eq_none (by simp; omega)
    · rfl
theorem RowOf.one {sel : Trip → Int} {P : List Int} {t : Trip} {a : Nat} {v : Int} (ha : a < P.length) (hv : sel t = v) : RowOf sel P (P.set a v) [t] a := by
  refine ⟨List.length_set .., fun j => ?_⟩
  rw [getD_set ha, covL_one]
  by_cases h : j = a
  · rw [if_pos h, if_pos h, ← hv]; rfl
  · rw [if_neg h, if_neg h]; rfl
end Go.Ev.Gl

namespace Go.Ev.Gl
variable {fns : T AFn}

/-! ## The program's walk -/
/-- three blocks alone are written -/
def But3 (pb db lb : Nat) (S S' : St) : Prop := S.nx ≤ S'.nx ∧ ∀ c, c < S.nx → c ≠ pb → c ≠ db → c ≠ lb → S'.h.get c = S.h.get c
theorem But3.refl (pb db lb : Nat) (S : St) : But3 pb db lb S S := ⟨Nat.le_refl _, fun _ _ _ _ _ => rfl⟩
theorem But3.trans {pb db lb : Nat} {S S' S'' : St} (h : But3 pb db lb S S') (h' : But3 pb db lb S' S'') : But3 pb db lb S S'' := ⟨Nat.le_trans h.1 h'.1, fun c hc h1 h2 h3 => (h'.2 c (Nat.lt_of_lt_of_le hc h.1) h1 h2 h3).trans (h.2 c hc h1 h2 h3)⟩
theorem But3.same {pb db lb : Nat} {S0 S S' : St} (h0 : Same S0 S) (h : But3 pb db lb S S') (h1 : S0.nx ≤ pb) (h2 : S0.nx ≤ db) (h3 : S0.nx ≤ lb) : Same S0 S' := ⟨Nat.le_trans h0.1 h.1, fun c hc => (h.2 c (Nat.lt_of_lt_of_le hc h0.1) (by omega) (by omega) (by omega)).trans (h0.2 c hc)⟩
end Go.Ev.Gl
