/- Contracts (9): rational numbers, the statements' tools, the law. -/
import Derived.Test.YtlnjemhkijkaoaaGl8
set_option maxHeartbeats 4000000
set_option linter.unusedSimpArgs false
set_option linter.unusedVariables false
namespace Go.Ev.Gl
variable {fns : T AFn}

/-! ## Check, of both (given the images) -/
end Go.Ev.Gl

namespace Go.Ev.Gl
variable {fns : T AFn}

/-! ## Product, of both (given the images) -/
end Go.Ev.Gl

namespace Go.Ev.Gl
variable {fns : T AFn}

/-! ## Infos and Actions, of both (given the images) -/
end Go.Ev.Gl

namespace Go.Ev.Gl
variable {fns : T AFn}

/-! ## The reference's Inverse (given the images) -/
end Go.Ev.Gl

namespace Go.Ev.Gl
variable {fns : T AFn}

/-! ## The program's Inverse (given the image) -/
end Go.Ev.Gl

namespace Go.Ev.Gl
variable {fns : T AFn}

/-! ## Automorphisms, plain -/
end Go.Ev.Gl

namespace Go.Ev.Gl
variable {fns : T AFn}

/-! ## What a game without an error is, plain -/
/-! ## What has been seen of a map -/
section
variable {g : PGame} {m : List Int} {V V' : Nat → Prop} {W W' : Nat → Nat → Prop} {I F : List Int} {A : List (List Int)}
/-! ### a map that is no automorphism -/
end
end Go.Ev.Gl

namespace Go.Ev.Gl
variable {fns : T AFn}

/-! ## Rows in a block of slices -/
section
variable {S0 X X' : St} {bs : Nat → Nat} {cs : List AV} {A : List (List Int)}
theorem getD_appL {l : List (List Int)} {x : List Int} {j : Nat} : (l ++ [x]).getD j [] = if j = l.length then x else l.getD j [] := by
  rw [List.getD_eq_getElem?_getD, List.getD_eq_getElem?_getD]
  by_cases h : j < l.length
  · rw [List.getElem?_append_left h, if_neg (by omega)]
  · rw [List.getElem?_append_right (by omega)]
    by_cases e : j = l.length
    · rw [if_pos e, e, Nat.sub_self]; rfl
    · rw [if_neg e, List.getElem?_eq_none (by simp; omega), List.getElem?_eq_none (by omega)]
end
end Go.Ev.Gl

namespace Go.Ev.Gl
variable {fns : T AFn}

/-! ## The reference's images: the first loop -/
theorem GrW.push1 {bytes t n : Nat} {S0 S : St} {v x : AV} {cs : List AV} (h : GrW 1 S0 S v n cs) (hS : Same S0 S) (ht : S.h.get t = some (.cells [x] false 0)) (h1 : n + 1 ≤ room) (h2 : (n + 1) * bytes ≤ room) :
    ∃ v' S', appendV bytes 1 v (.sl t 0 1 1 false) S = some (v', S') ∧ GrW 1 S0 S' v' (n + 1) (cs ++ [x]) ∧ blkOf v' = some S.nx ∧ S'.nx = S.nx + 1 ∧ ∀ c, c < S.nx → blkOf v ≠ some c → S'.h.get c = S.h.get c := by
  have hs := src1 ht
  rcases h with ⟨rfl, rfl, rfl⟩ | ⟨b, rfl, hb0, hb, hg, hc⟩
  · refine ⟨.sl S.nx 0 1 1 true, ⟨S.h.set S.nx (some (.cells [x] true 1)), S.nx + 1⟩, ?_, .inr ⟨S.nx, by rw [Nat.zero_add], hS.1, by simp, ?_, ?_⟩, rfl, rfl, fun c hc _ => (Same.alloc S _).2 c hc⟩
    · show (osel (some 1) fun j => osel (srcCells (.sl t 0 1 1 false) S.h 1 j) fun new => appV .nilsl bytes 1 j new S) = _
      rw [osel_some, hs, osel_some]
      show appNil bytes 1 1 [x] S = _
      unfold appNil
      rw [show Nat.beq 1 0 = false from rfl, bsel_false, Nat.ble_eq_true_of_le (by omega), bsel_true, Nat.ble_eq_true_of_le (by rw [Nat.zero_add] at h2; exact h2), bsel_true]
      rfl
    · simp only
      rw [T.get_set, if_pos rfl]
      rfl
    · rfl
  · refine ⟨.sl S.nx 0 (n + 1) (n + 1) true, ⟨(S.h.set b none).set S.nx (some (.cells (cs ++ [x]) true 1)), S.nx + 1⟩, ?_, .inr ⟨S.nx, rfl, hS.1, by simp, ?_, by rw [List.length_append, hc, List.length_singleton, Nat.add_mul, Nat.one_mul]⟩, rfl, rfl, fun c hc hne => ?_⟩
    · show (osel (some 1) fun j => osel (srcCells (.sl t 0 1 1 false) S.h 1 j) fun new => appV (.sl b 0 n n true) bytes 1 j new S) = _
      rw [osel_some, hs, osel_some]
      show appSl bytes 1 b 0 n n true 1 [x] S = _
      unfold appSl
      have e2 : Nat.ble (n + 1) n = false := by rw [Bool.eq_false_iff]; intro h; have := Nat.le_of_ble_eq_true h; omega
      rw [e2, bsel_false, Nat.ble_eq_true_of_le h1, bsel_true, Nat.ble_eq_true_of_le h2, bsel_true, hg, osel_some]
      have e3 : cut cs 0 (n * 1) = some cs := by
        unfold cut
        rw [takeL_eq, dropL_eq, List.drop_zero, if_pos (by omega), List.take_of_length_le (by omega)]
      have e4 : Nat.beq (0 + n * 1) (lenL cs) = true := by rw [lenL_eq, hc, Nat.beq_eq]; omega
      simp only [growB, e3, osel_some, bsel_true, e4, show Nat.beq 1 1 = true from rfl, grown, appL_eq]
    · simp only
      rw [T.get_set, if_pos rfl]
    · simp only
      have : c ≠ b := fun e => hne (by rw [e]; rfl)
      rw [T.get_set, if_neg (by omega), T.get_set, if_neg this]
theorem GrW.move {k n : Nat} {S0 S S' : St} {v : AV} {cs : List AV} (h : GrW k S0 S v n cs) (hn : S.nx ≤ S'.nx) (hh : ∀ c, blkOf v = some c → S'.h.get c = S.h.get c) : GrW k S0 S' v n cs := by
  rcases h with h | ⟨b, rfl, h2, h3, h4, h5⟩
  · exact .inl h
  · exact .inr ⟨b, rfl, h2, Nat.lt_of_lt_of_le h3 hn, (hh b rfl).trans h4, h5⟩
end Go.Ev.Gl

namespace Go.Ev.Gl
variable {fns : T AFn}

/-! ## What the program's walk has seen of a map, plain -/
section
variable {g : PGame} {m : List Int} {I F : List Int} {A : List (List Int)} {n e : Nat}
end
end Go.Ev.Gl
