/- Contracts (9): rational numbers, the statements' tools, the law. -/
import Derived.Test.YtoojnpjgnnpllaaGl8
set_option maxHeartbeats 4000000
set_option linter.unusedSimpArgs false
set_option linter.unusedVariables false
namespace Go.Ev.Gl
variable {fns : T AFn}

/-! ## Check, of both (given the images) -/
end Go.Ev.Gl

namespace Go.Ev.Gl
variable {fns : T AFn}

/-! ## Product, of both (given the images) -/
end Go.Ev.Gl

namespace Go.Ev.Gl
variable {fns : T AFn}

/-! ## Infos and Actions, of both (given the images) -/
end Go.Ev.Gl

namespace Go.Ev.Gl
variable {fns : T AFn}

/-! ## The reference's Inverse (given the images) -/
end Go.Ev.Gl

namespace Go.Ev.Gl
variable {fns : T AFn}

/-! ## The program's Inverse (given the image) -/
end Go.Ev.Gl

namespace Go.Ev.Gl
variable {fns : T AFn}

/-! ## Automorphisms, plain -/
def nodeAt (g : PGame) (i : Nat) : PNode := g.nodes.getD i ⟨0, 0, 0, [], [], []⟩
/-- the first node of a set -/
def firstOf (g : PGame) (s : Nat) : Nat := firstN g.nodes 0 s - 1
end Go.Ev.Gl

namespace Go.Ev.Gl
variable {fns : T AFn}

/-! ## What a game without an error is, plain -/
theorem nodeAt_get {g : PGame} {i : Nat} {x : PNode} (h : g.nodes[i]? = some x) : nodeAt g i = x := by unfold nodeAt; rw [List.getD_eq_getElem?_getD, h]; rfl
theorem nodeAt_some {g : PGame} {i : Nat} (h : i < g.nodes.length) : g.nodes[i]? = some (nodeAt g i) := by unfold nodeAt; rw [List.getD_eq_getElem?_getD, List.getElem?_eq_getElem h]; rfl
theorem nextOf_at (g : PGame) (i : Nat) : nextOf g i = (nodeAt g i).next := by
  unfold nextOf nodeAt
  rw [List.getD_eq_getElem?_getD]
  cases g.nodes[i]? <;> rfl
theorem firstN_at {i : Nat} : ∀ {l : List PNode} {s : Nat}, firstN l s i ≠ 0 → ∃ j x, l[j]? = some x ∧ firstN l s i = s + j + 1 ∧ x.kind = 2 ∧ x.info = (i : Int)
  | [], s, h => absurd rfl h
  | x :: l, s, h => by
    simp only [firstN] at h ⊢
    by_cases hx : x.kind = 2 ∧ x.info = (i : Int)
    · rw [if_pos hx]
      exact ⟨0, x, rfl, rfl, hx.1, hx.2⟩
    · rw [if_neg hx] at h ⊢
      obtain ⟨j, y, h1, h2, h3, h4⟩ := firstN_at h
      exact ⟨j + 1, y, by rw [List.getElem?_cons_succ]; exact h1, by rw [h2]; omega, h3, h4⟩
theorem node_pay {ps : Int} {ni : Nat} {x : PNode} (h : nodeE ps ni x = 0) (hp : ps ≤ 4) : x.pay.length ≤ 4 := by
  unfold nodeE at h
  split at h
  · split at h
    · cases h
    · rename_i hb
      unfold badC at hb
      omega
  · split at h
    · split at h
      · cases h
      · rename_i hb
        unfold badM at hb
        omega
    · split at h
      · split at h
        · cases h
        · rename_i hb
          unfold badE at hb
          omega
      · cases h
structure GoodG (g : PGame) : Prop where
  n1 : 0 < g.nodes.length
  n2 : g.nodes.length ≤ 2000
  ni : g.infos.length ≤ 200
  nxt : ∀ i, i < g.nodes.length → (nodeAt g i).next.length ≤ 1000
  pay : ∀ i, i < g.nodes.length → (nodeAt g i).pay.length ≤ 4
  wts : ∀ i, i < g.nodes.length → (nodeAt g i).kind = 1 → (nodeAt g i).weights.length = (nodeAt g i).next.length
  inf : ∀ i, i < g.nodes.length → (nodeAt g i).kind = 2 → 0 ≤ (nodeAt g i).info ∧ (nodeAt g i).info < g.infos.length ∧ (infoAt g (nodeAt g i).info).actions = (((nodeAt g i).next.length : Nat) : Int)
  fst : ∀ s, s < g.infos.length → firstOf g s < g.nodes.length ∧ (nodeAt g (firstOf g s)).kind = 2 ∧ (nodeAt g (firstOf g s)).info = (s : Int)
  walk : ∃ T, walkG g = some T ∧ T.length = g.nodes.length ∧ WF (nextOf g) 0 (-1) T
theorem good_of {g : PGame} (h : formE g = 0) : GoodG g := by
  unfold formE at h
  split at h
  · cases h
  rename_i hb
  split at h
  · rename_i h1; exact absurd h h1
  rename_i hN
  have hN := Decidable.not_not.1 hN
  cases hW : walkG g with
  | none => rw [hW] at h; cases h
  | some T =>
    rw [hW] at h
    simp only at h
    split at h
    · cases h
    rename_i hT
    split at h
    · cases h
    unfold setsE at h
    split at h
    · cases h
    rename_i hmis
    split at h
    · cases h
    rename_i hfst
    unfold badG at hb
    have hmem : ∀ i, i < g.nodes.length → nodeAt g i ∈ g.nodes := fun i hi => List.mem_of_getElem? (nodeAt_some hi)
    refine ⟨by omega, by omega, by omega, fun i hi => node_next (nodesE_all hN _ (hmem i hi)), fun i hi => node_pay (nodesE_all hN _ (hmem i hi)) (by omega), fun i hi hk => ?_, fun i hi hk => ?_, fun s hs => ?_, T, hW, by omega, ?_⟩
    · have := nodesE_all hN _ (hmem i hi)
      unfold nodeE at this
      rw [if_pos hk] at this
      split at this
      · cases this
      · rename_i hc
        unfold badC at hc
        omega
    · obtain ⟨a, b⟩ := node_info (nodesE_all hN _ (hmem i hi)) hk
      refine ⟨a, b, Decidable.byContradiction fun hne => hmis ⟨_, hmem i hi, hk, fun hh => hne hh.2⟩⟩
    · have hne : firstN g.nodes 0 s ≠ 0 := fun e => hfst (by
        unfold firstsL
        exact List.mem_map.2 ⟨s, List.mem_range.2 hs, by rw [e]; rfl⟩)
      obtain ⟨j, x, h1, h2, h3, h4⟩ := firstN_at hne
      have e : firstOf g s = j := by unfold firstOf; omega
      rw [e, nodeAt_get h1]
      exact ⟨(List.getElem?_eq_some_iff.1 h1).1, h3, h4⟩
    · unfold walkG at hW
      exact walk_facts hW

/-! ## What has been seen of a map -/
section
variable {g : PGame} {m : List Int} {V V' : Nat → Prop} {W W' : Nat → Nat → Prop} {I F : List Int} {A : List (List Int)}
theorem getD_set0 {l : List Int} {n j : Nat} {x : Int} (hn : n < l.length) : (l.set n x).getD j 0 = if n = j then x else l.getD j 0 := by
  rw [List.getD_eq_getElem?_getD, List.getElem?_set]
  split
  · rfl
  · rw [List.getD_eq_getElem?_getD]
/-! ### a map that is no automorphism -/
end
end Go.Ev.Gl

namespace Go.Ev.Gl
variable {fns : T AFn}

/-! ## Rows in a block of slices -/
section
variable {S0 X X' : St} {bs : Nat → Nat} {cs : List AV} {A : List (List Int)}
theorem getD_appL {l : List (List Int)} {x : List Int} {j : Nat} : (l ++ [x]).getD j [] = if j = l.length then x else l.getD j [] := by
  rw [List.getD_eq_getElem?_getD, List.getD_eq_getElem?_getD]
  by_cases h : j < l.length
  · rw [List.getElem?_append_left h, if_neg (by omega)]
  · rw [List.getElem?_append_right (by omega)]
    by_cases e : j = l.length
    · rw [if_pos e, e, Nat.sub_self]; rfl
    · rw [if_neg e, List.getElem?_eq_none (by simp; omega), List.getElem?_eq_none (by omega)]
end
end Go.Ev.Gl

namespace Go.Ev.Gl
variable {fns : T AFn}

/-! ## The reference's images: the first loop -/
theorem GrW.push1 {bytes t n : Nat} {S0 S : St} {v x : AV} {cs : List AV} (h : GrW 1 S0 S v n cs) (hS : Same S0 S) (ht : S.h.get t = some (.cells [x] false 0)) (h1 : n + 1 ≤ room) (h2 : (n + 1) * bytes ≤ room) :
    ∃ v' S', appendV bytes 1 v (.sl t 0 1 1 false) S = some (v', S') ∧ GrW 1 S0 S' v' (n + 1) (cs ++ [x]) ∧ blkOf v' = some S.nx ∧ S'.nx = S.nx + 1 ∧ ∀ c, c < S.nx → blkOf v ≠ some c → S'.h.get c = S.h.get c := by
  have hs := src1 ht
  rcases h with ⟨rfl, rfl, rfl⟩ | ⟨b, rfl, hb0, hb, hg, hc⟩
  · refine ⟨.sl S.nx 0 1 1 true, ⟨S.h.set S.nx (some (.cells [x] true 1)), S.nx + 1⟩, ?_, .inr ⟨S.nx, by rw [Nat.zero_add], hS.1, by simp, ?_, ?_⟩, rfl, rfl, fun c hc _ => (Same.alloc S _).2 c hc⟩
    · show (osel (some 1) fun j => osel (srcCells (.sl t 0 1 1 false) S.h 1 j) fun new => appV .nilsl bytes 1 j new S) = _
      rw [osel_some, hs, osel_some]
      show appNil bytes 1 1 [x] S = _
      unfold appNil
      rw [show Nat.beq 1 0 = false from rfl, bsel_false, Nat.ble_eq_true_of_le (by omega), bsel_true, Nat.ble_eq_true_of_le (by rw [Nat.zero_add] at h2; exact h2), bsel_true]
      rfl
    · simp only
      rw [T.get_set, if_pos rfl]
      rfl
    · rfl
  · refine ⟨.sl S.nx 0 (n + 1) (n + 1) true, ⟨(S.h.set b none).set S.nx (some (.cells (cs ++ [x]) true 1)), S.nx + 1⟩, ?_, .inr ⟨S.nx, rfl, hS.1, by simp, ?_, by rw [List.length_append, hc, List.length_singleton, Nat.add_mul, Nat.one_mul]⟩, rfl, rfl, fun c hc hne => ?_⟩
    · show (osel (some 1) fun j => osel (srcCells (.sl t 0 1 1 false) S.h 1 j) fun new => appV (.sl b 0 n n true) bytes 1 j new S) = _
      rw [osel_some, hs, osel_some]
      show appSl bytes 1 b 0 n n true 1 [x] S = _
      unfold appSl
      have e2 : Nat.ble (n + 1) n = false := by rw [Bool.eq_false_iff]; intro h; have := Nat.le_of_ble_eq_true h; omega
      rw [e2, bsel_false, Nat.ble_eq_true_of_le h1, bsel_true, Nat.ble_eq_true_of_le h2, bsel_true, hg, osel_some]
      have e3 : cut cs 0 (n * 1) = some cs := by
        unfold cut
        rw [takeL_eq, dropL_eq, List.drop_zero, if_pos (by omega), List.take_of_length_le (by omega)]
      have e4 : Nat.beq (0 + n * 1) (lenL cs) = true := by rw [lenL_eq, hc, Nat.beq_eq]; omega
      simp only [growB, e3, osel_some, bsel_true, e4, show Nat.beq 1 1 = true from rfl, grown, appL_eq]
    · simp only
      rw [T.get_set, if_pos rfl]
    · simp only
      have : c ≠ b := fun e => hne (by rw [e]; rfl)
      rw [T.get_set, if_neg (by omega), T.get_set, if_neg this]
theorem GrW.move {k n : Nat} {S0 S S' : St} {v : AV} {cs : List AV} (h : GrW k S0 S v n cs) (hn : S.nx ≤ S'.nx) (hh : ∀ c, blkOf v = some c → S'.h.get c = S.h.get c) : GrW k S0 S' v n cs := by
  rcases h with h | ⟨b, rfl, h2, h3, h4, h5⟩
  · exact .inl h
  · exact .inr ⟨b, rfl, h2, Nat.lt_of_lt_of_le h3 hn, (hh b rfl).trans h4, h5⟩
theorem IsSl.place {k : IntKind} {S : St} {v : AV} {l : List Int} (h : IsSl k S v l) {i : Nat} (hi : i < l.length) : ∃ b p, elemP v i = .ptr b p ∧ b < S.nx := by
  rcases h with ⟨h0, _⟩ | ⟨b, off, cap, o, cs, rfl, _, hb, _⟩
  · rw [h0] at hi; exact absurd hi (Nat.not_lt_zero _)
  · exact ⟨b, _, rfl, hb⟩
theorem ld64 {h : Ev.T AB} {b p sz : Nat} {l : List Int} {o : Bool} (hb : h.get b = some (.cells (cells64 l) o sz)) (hp : p < l.length) : qLdV (.ptr b p) false 1 h = some (.int .i64 (l.getD p 0)) := ldrow hb (by
  unfold cells64
  rw [List.getElem?_map, List.getElem?_eq_getElem hp, List.getD_eq_getElem?_getD, List.getElem?_eq_getElem hp]
  rfl)
theorem natOf_nn {k : IntKind} {x : Int} (h : 0 ≤ x) : natOf (.int k x) = some x.toNat := by
  obtain ⟨n, rfl⟩ : ∃ n : Nat, x = (n : Int) := ⟨x.toNat, by omega⟩
  rw [Int.toNat_natCast]
  exact natOf_cast ..
theorem agg_node {x0 x1 x2 : Int} {a b c : AV} {k : IntKind} (ha : sameV a a = true) (hb : sameV b b = true) (hc : sameV c c = true) : sameV (.agg [.int k x0, .int k x1, .int k x2, a, b, c]) (.agg [.int k x0, .int k x1, .int k x2, a, b, c]) = true := agg6_self (same_int ..) (same_int ..) (same_int ..) ha hb hc
end Go.Ev.Gl

namespace Go.Ev.Gl
variable {fns : T AFn}

/-! ## What the program's walk has seen of a map, plain -/
section
variable {g : PGame} {m : List Int} {I F : List Int} {A : List (List Int)} {n e : Nat}
/-- what follows of the walk for parents and children -/
theorem GoodG.kids (G : GoodG g) : ∀ j, j < g.nodes.length → ∀ k, k < (nodeAt g j).next.length → (j : Int) < (nodeAt g j).next.getD k 0 ∧ (nodeAt g j).next.getD k 0 < g.nodes.length := fun j hj k hk => by
  obtain ⟨T, _, hTl, hW⟩ := G.walk
  have hm : (nodeAt g j).next.getD k 0 ∈ (nodeAt g j).next := by rw [List.getD_eq_getElem?_getD, List.getElem?_eq_getElem hk]; exact List.getElem_mem _
  have := hW.cf j (by omega) _ (by rw [Nat.zero_add, nextOf_at]; exact hm)
  omega
theorem GoodG.only (G : GoodG g) {j k j' k' : Nat} (hj : j < g.nodes.length) (hk : k < (nodeAt g j).next.length) (hj' : j' < g.nodes.length) (hk' : k' < (nodeAt g j').next.length) (e : (nodeAt g j).next.getD k 0 = (nodeAt g j').next.getD k' 0) : j = j' ∧ k = k' := by
  obtain ⟨T, _, hTl, hW⟩ := G.walk
  have mem : ∀ {j k : Nat}, k < (nodeAt g j).next.length → (nodeAt g j).next.getD k 0 ∈ (nodeAt g j).next := fun {j k} hk => by rw [List.getD_eq_getElem?_getD, List.getElem?_eq_getElem hk]; exact List.getElem_mem _
  have h1 := (hW.cf j (by omega) _ (by rw [Nat.zero_add, nextOf_at]; exact mem hk)).2.2
  have h2 := (hW.cf j' (by omega) _ (by rw [Nat.zero_add, nextOf_at]; exact mem hk')).2.2
  rw [e, h2] at h1
  have hjj : j = j' := by have := Option.some.inj h1; omega
  subst hjj
  have hinc := hW.inc j (by omega)
  rw [Nat.zero_add, nextOf_at] at hinc
  refine ⟨rfl, ?_⟩
  rw [List.getD_eq_getElem?_getD, List.getD_eq_getElem?_getD, List.getElem?_eq_getElem hk, List.getElem?_eq_getElem hk'] at e
  have e : (nodeAt g j).next[k] = (nodeAt g j).next[k'] := e
  rcases Nat.lt_trichotomy k k' with h | h | h
  · have := List.pairwise_iff_getElem.1 hinc k k' hk hk' h; omega
  · exact h
  · have := List.pairwise_iff_getElem.1 hinc k' k hk' hk h; omega
end
end Go.Ev.Gl
