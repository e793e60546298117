/- Contracts (7): rational numbers, the statements' tools, the law. -/
import Derived.Test.YtffbfglbdghpaaaGreatDoorGl6
set_option maxHeartbeats 4000000
set_option linter.unusedSimpArgs false
set_option linter.unusedVariables false
namespace Go.Ev.Gl
variable {fns : T AFn}

/-! ## The library's functions on slices of ints -/
end Go.Ev.Gl

namespace Go.Ev.Gl
variable {fns : T AFn}

/-! ## Information sets -/
/-- one behind the first node of a set, from a place on; 0 if there is none -/
def firstN : List PNode → Nat → Nat → Nat
  | [], _, _ => 0
  | x :: l, s, i => if x.kind = 2 ∧ x.info = (i : Int) then s + 1 else firstN l (s + 1) i
def infoAt (g : PGame) (i : Int) : PInfo := g.infos.getD i.toNat ⟨0, 0⟩
def mis (g : PGame) (x : PNode) : Prop := x.kind = 2 ∧ ¬ ((infoAt g x.info).player = x.player ∧ (infoAt g x.info).actions = ((x.next.length : Nat) : Int))
instance misDec (g : PGame) (x : PNode) : Decidable (mis g x) := by unfold mis; exact inferInstance
end Go.Ev.Gl

namespace Go.Ev.Gl
variable {fns : T AFn}

/-! ## The error of a game -/
def badG (g : PGame) : Prop := g.players < 1 ∨ (4 : Int) < g.players ∨ ((g.nodes.length : Nat) : Int) < 1 ∨ (2000 : Int) < ((g.nodes.length : Nat) : Int) ∨ (200 : Int) < ((g.infos.length : Nat) : Int)
instance badGDec (g : PGame) : Decidable (badG g) := by unfold badG; exact inferInstance
def walkG (g : PGame) : Option (List Trip) := walkL g.nodes.length (nextOf g) (g.nodes.length + 1) 0 (-1) 0
/-! ### a store into a cell, some blocks not laid yet -/
end Go.Ev.Gl

namespace Go.Ev.Gl
variable {fns : T AFn}

/-! ## A game walked -/
theorem lg3_a {h : T AB} {b : Nat} {x0 x1 x2 : AV} {o : Bool} {s : Nat} (hb : h.get b = some (.cells [x0, x1, x2] o s)) : qLdV (.ptr b 0) true 3 h = some (.agg [x0, x1, x2]) := ldall hb rfl
theorem RowOf.full {sel : Trip → Int} {P P' : List Int} {T : List Trip} (h : RowOf sel P P' T 0) (hl : T.length = P.length) : P' = T.map sel := by
  refine List.ext_getElem (by rw [List.length_map, h.1, hl]) fun j j1 j2 => ?_
  have h1 := h.2 j
  rw [List.length_map] at j2
  unfold covL at h1
  rw [if_pos (Nat.zero_le _), Nat.sub_zero, List.getElem?_eq_getElem j2, List.getD_eq_getElem?_getD, List.getElem?_eq_getElem j1] at h1
  rw [List.getElem_map]
  exact h1
end Go.Ev.Gl

namespace Go.Ev.Gl
variable {fns : T AFn}

/-! ## Form and Parents -/
end Go.Ev.Gl

namespace Go.Ev.Gl
variable {fns : T AFn}

/-! ## Many slices that grow -/
theorem GrW.self {k n : Nat} {S0 S : St} {v : AV} {cs : List AV} (h : GrW k S0 S v n cs) : sameV v v = true := by
  rcases h with ⟨rfl, _⟩ | ⟨b, rfl, _⟩
  · rfl
  · exact same_sl ..
theorem GrW.cells {k n : Nat} {S0 S : St} {v : AV} {cs : List AV} (h : GrW k S0 S v n cs) : v.cells = some [v] := by
  rcases h with ⟨rfl, _⟩ | ⟨b, rfl, _⟩ <;> rfl
end Go.Ev.Gl

namespace Go.Ev.Gl
variable {fns : T AFn}

/-! ## The reference's sets -/
/-- a slice as an element -/
def SlE (S : St) (cs : List AV) (l : List Int) : Prop := ∃ a, cs = [a] ∧ IsSl .i64 S a l
theorem firm_sl : Firm SlE := fun ⟨a, h, h1⟩ hs => ⟨a, h, h1.same hs⟩
theorem GrW.is {S0 S : St} {v : AV} {l : List Int} (h : GrW 1 S0 S v l.length (cells64 l)) : IsSl .i64 S v l := by
  rcases h with ⟨rfl, h0, _⟩ | ⟨b, rfl, h1, h2, h3, h4⟩
  · exact .inl ⟨List.length_eq_zero_iff.1 h0, .inl rfl⟩
  · refine .inr ⟨b, 0, l.length, true, cells64 l, rfl, Nat.le_refl _, h2, by unfold cellsAt; rw [h3]; rfl, fun i x hi => ?_⟩
    rw [Nat.zero_add]
    unfold cells64
    rw [List.getElem?_map, hi]
    rfl
theorem GrW.blk {k n c : Nat} {S0 S : St} {v : AV} {cs : List AV} (h : GrW k S0 S v n cs) (hc : blkOf v = some c) : S0.nx ≤ c ∧ c < S.nx ∧ S.h.get c = some (.cells cs true k) := by
  rcases h with ⟨rfl, _⟩ | ⟨b, rfl, h1, h2, h3, h4⟩
  · cases hc
  · cases hc; exact ⟨h1, h2, h3⟩
theorem GrW.off {k n c s : Nat} {S0 S : St} {v : AV} {cs cs' : List AV} (h : GrW k S0 S v n cs) (hc : S.h.get c = some (.cells cs' false s)) : blkOf v ≠ some c := fun e => by
  have := (h.blk e).2.2
  rw [hc] at this
  cases this
structure Fam (S0 X : St) (ob NI : Nat) (cs : List AV) (L : Nat → List Int) : Prop where
  ho : X.h.get ob = some (.cells cs false 0)
  lt : ob < X.nx
  hl : cs.length = NI
  gr : ∀ (j : Nat) (a : AV), cs[j]? = some a → GrW 1 S0 X a (L j).length (cells64 (L j))
  dj : ∀ (j k : Nat) (a b : AV), j ≠ k → cs[j]? = some a → cs[k]? = some b → ∀ c, blkOf a = some c → blkOf b ≠ some c
theorem Fam.same {S0 X X' : St} {ob NI : Nat} {cs : List AV} {L : Nat → List Int} (h : Fam S0 X ob NI cs L) (hs : Same X X') : Fam S0 X' ob NI cs L := ⟨(hs.2 _ h.lt).trans h.ho, Nat.lt_of_lt_of_le h.lt hs.1, h.hl, fun j a hj => (h.gr j a hj).step hs, h.dj⟩
theorem Fam.is {S0 X : St} {ob NI : Nat} {cs : List AV} {L : Nat → List Int} (h : Fam S0 X ob NI cs L) : IsSlG 1 SlE X (.sl ob 0 NI NI false) ((List.range NI).map L) := by
  refine .inr ⟨ob, 0, NI, false, cs, by simp, by simp, h.lt, by unfold cellsAt; rw [h.ho]; rfl, fun i l hi => ?_⟩
  rw [List.getElem?_map, Option.map_eq_some_iff] at hi
  obtain ⟨i', hi', rfl⟩ := hi
  have hlt : i < NI := by have := (List.getElem?_eq_some_iff.1 hi').1; rwa [List.length_range] at this
  rw [List.getElem?_range hlt] at hi'
  · cases hi'
    have hc : cs[i]? = some (cs[i]'(by rw [h.hl]; exact hlt)) := List.getElem?_eq_getElem _
    refine ⟨[cs[i]'(by rw [h.hl]; exact hlt)], rfl, fun j x hj => ?_, _, rfl, (h.gr i _ hc).is⟩
    cases j with
    | zero =>
      cases hj
      rw [Nat.zero_add, Nat.mul_one, Nat.add_zero]
      exact hc
    | succ j => simp at hj
end Go.Ev.Gl

namespace Go.Ev.Gl
variable {fns : T AFn}

/-! ## The reference's Form -/
end Go.Ev.Gl

namespace Go.Ev.Gl
variable {fns : T AFn}

/-! ## The reference's Form, in whole -/
end Go.Ev.Gl
