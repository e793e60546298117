/- Contracts (7): rational numbers, the statements' tools, the law. -/
import Derived.Test.YtoojnpjgnnpllaaGl6
open Nat (reduceEqDiff reduceAdd)
set_option maxHeartbeats 4000000
set_option linter.unusedSimpArgs false
set_option linter.unusedVariables false
namespace Go.Ev.Gl
variable {fns : T AFn}

/-! ## The library's functions on slices of ints -/
theorem isNaN_spec {S : St} {a : Int} (H : Has fns) : wpf fns (.fn 185 [] []) [.int .i64 a] S fun r S' => r = .bool false ∧ S' = S := by
  refine wpf_fn H.f185 (by simp) ?_
  simp only [↓stU, stD, reduceEqDiff, ↓reduceIte]
  refine wsr ?_
  simp only [↓stU, stD, reduceEqDiff, ↓reduceIte]
  refine wsr ?_
  simp only [↓stU, stD, reduceEqDiff, ↓reduceIte, decide_eq_false (show ¬ a ≠ a from fun h => h rfl)]
  refine wpc_ret ?_
  simp only [↓stU, stD, reduceEqDiff, ↓reduceIte]
theorem less_spec {S : St} {a b : Int} (H : Has fns) : wpf fns (.fn 182 [] []) [.int .i64 a, .int .i64 b] S fun r S' => r = .bool (decide (a < b)) ∧ S' = S := by
  refine wpf_fn H.f182 (by simp) ?_
  simp only [↓stU, stD, reduceEqDiff, ↓reduceIte]
  refine wsr ?_
  simp only [↓stU, stD, reduceEqDiff, ↓reduceIte]
  refine wsr ?_
  simp only [↓stU, stD, reduceEqDiff, ↓reduceIte]
  refine wpo_call ?_
  simp only [↓stU, stD, reduceEqDiff, ↓reduceIte]
  refine wpf_mono (isNaN_spec H) ?_
  rintro _ X ⟨rfl, hX⟩
  rw [hX]
  simp only [↓stU, stD, reduceEqDiff, ↓reduceIte]
  refine wpc_ret ?_
  simp only [↓stU, stD, reduceEqDiff, ↓reduceIte]
def maxI (m : Int) (l : List Int) : Int := l.foldl mx m
def MaxII (S : St) (v : AV) (l : List Int) (m0 : Int) (k : Nat) (A : Act') (X : St) : Prop := A.inr = false ∧ X = S ∧ ∃ i, i + k = l.length ∧ 0 < i ∧ tmpV 0 A.F = v ∧ tmpV 3 A.F = .int .i64 (maxI m0 ((l.take i).drop 1)) ∧ tmpV 4 A.F = .int .i64 (i : Int)
theorem max_spec {S : St} {v : AV} {l : List Int} (H : Has fns) (hl : IsSl .i64 S v l) (hne : 0 < l.length) (hlen : l.length ≤ 1000000) : wpf fns (.fn 164 [] []) [v] S fun r S' => r = .int .i64 (maxI (l.getD 0 0) (l.drop 1)) ∧ S' = S := by
  refine wpf_fn H.f164 (by simp) ?_
  simp only [↓stU, stD, reduceEqDiff, ↓reduceIte]
  refine wsr ?_
  simp only [↓stU, stD, reduceEqDiff, ↓reduceIte]
  refine wss ?_
  simp only [↓stU, stD, reduceEqDiff, ↓reduceIte, hl.len, Int.ofNat_eq_natCast]
  refine wpc_non (by simp only [↓stU, stD, reduceEqDiff, ↓reduceIte, decide_eq_false (show ¬ ((l.length : Nat) : Int) < 1 by omega)]) (wpc_skip ?_)
  try simp only [↓stU, stD, reduceEqDiff, ↓reduceIte]
  have hia := hl.iaddr hne
  have hld := hl.ld hne
  refine wsr ?_
  simp only [↓stU, stD, reduceEqDiff, ↓reduceIte, nat0, hia, hld]
  refine wss ?_
  simp only [↓stU, stD, reduceEqDiff, ↓reduceIte]
  refine wpc_block (wpc_loop (MaxII S v l (l.getD 0 0)) ?_ (l.length - 1) _ _ ⟨rfl, rfl, 1, by omega, by decide, by simp only [↓stU, stD, reduceEqDiff, ↓reduceIte], by simp only [↓stU, stD, reduceEqDiff, ↓reduceIte]; rw [List.drop_of_length_le (by rw [List.length_take]; omega)]; rfl, by simp only [↓stU, stD, reduceEqDiff, ↓reduceIte]⟩)
  rintro k ⟨F, inr⟩ X ⟨q0, hX, i, hik, hi0, p0, p3, p4⟩
  simp only at q0 p0 p3 p4
  subst q0
  rw [hX]
  refine wss ?_
  simp only [↓stU, stD, reduceEqDiff, ↓reduceIte, p0, p4, hl.len, Int.ofNat_eq_natCast]
  by_cases hi : i < l.length
  · refine wpc_yes (by simp only [↓stU, stD, reduceEqDiff, ↓reduceIte, decide_eq_true (show (i : Int) < ((l.length : Nat) : Int) by omega)]) (wpc_skip ?_)
    try simp only [↓stU, stD, reduceEqDiff, ↓reduceIte]
    have hia := hl.iaddr hi
    have hld := hl.ld hi
    have htk : (l.take (i + 1)).drop 1 = (l.take i).drop 1 ++ [l.getD i 0] := by
      rw [List.take_add_one, List.getElem?_eq_getElem hi, List.drop_append, List.length_take, show 1 - min i l.length = 0 by omega, List.getD_eq_getElem?_getD, List.getElem?_eq_getElem hi]
      rfl
    have w1 : IntKind.i64.wrap ((i : Int) + 1) = ((i + 1 : Nat) : Int) := by rw [wrap_i64 (by omega) (by omega)]; omega
    refine wpc_seq (wpc_block (wpc_reg ?_))
    simp only [↓stU, stD, reduceEqDiff, ↓reduceIte, p0, p3, p4, natOf_cast, hia, hld, evQ_mm, mmL_int]
    refine wpc_reg ?_
    simp only [↓stU, stD, reduceEqDiff, ↓reduceIte, p4, w1]
    refine ⟨k - 1, by omega, rfl, rfl, i + 1, by omega, by omega, by simp only [↓stU, stD, reduceEqDiff, ↓reduceIte, p0], ?_, by simp only [↓stU, stD, reduceEqDiff, ↓reduceIte]⟩
    simp only [↓stU, stD, reduceEqDiff, ↓reduceIte]
    rw [htk]
    unfold maxI
    rw [List.foldl_append]
    rfl
  · refine wpc_non (by simp only [↓stU, stD, reduceEqDiff, ↓reduceIte, decide_eq_false (show ¬ (i : Int) < ((l.length : Nat) : Int) by omega)]) (wpc_exit ?_)
    simp only [↓stU, stD, reduceEqDiff, ↓reduceIte]
    rw [List.take_of_length_le (by omega)] at p3
    refine wsr ?_
    simp only [↓stU, stD, reduceEqDiff, ↓reduceIte, p3]
    refine wpc_ret ?_
    simp only [↓stU, stD, reduceEqDiff, ↓reduceIte]
def IndI (S : St) (v : AV) (l : List Int) (z : Int) (k : Nat) (A : Act') (X : St) : Prop := A.inr = false ∧ X = S ∧ ∃ i, i + k = l.length ∧ ¬ z ∈ l.take i ∧ tmpV 0 A.F = v ∧ tmpV 1 A.F = .int .i64 z ∧ tmpV 7 A.F = .int .i64 ((l.length : Nat) : Int) ∧ tmpV 8 A.F = .int .i64 (i : Int)
theorem indexI_spec {S : St} {v : AV} {l : List Int} {z : Int} (H : Has fns) (hl : IsSl .i64 S v l) (hlen : l.length ≤ 1000000) : wpf fns (.fn 181 [] []) [v, .int .i64 z] S fun r S' => (∃ j, r = .int .i64 j ∧ (0 ≤ j ↔ z ∈ l)) ∧ S' = S := by
  refine wpf_fn H.f181 (by simp) ?_
  simp only [↓stU, stD, reduceEqDiff, ↓reduceIte]
  refine wsr ?_
  simp only [↓stU, stD, reduceEqDiff, ↓reduceIte]
  refine wss ?_
  simp only [↓stU, stD, reduceEqDiff, ↓reduceIte, hl.len, Int.ofNat_eq_natCast]
  refine wpc_block (wpc_loop (IndI S v l z) ?_ l.length _ _ ⟨rfl, rfl, 0, by omega, by simp, by simp only [↓stU, stD, reduceEqDiff, ↓reduceIte], by simp only [↓stU, stD, reduceEqDiff, ↓reduceIte], by simp only [↓stU, stD, reduceEqDiff, ↓reduceIte], by simp only [↓stU, stD, reduceEqDiff, ↓reduceIte]⟩)
  rintro k ⟨F, inr⟩ X ⟨q0, hX, j, hjk, ha, p0, p1, p7, p8⟩
  simp only at q0 p0 p1 p7 p8
  subst q0
  rw [hX]
  refine wsr ?_
  simp only [↓stU, stD, reduceEqDiff, ↓reduceIte, p7, p8]
  by_cases hj : j < l.length
  · refine wpc_seq (wpc_yes (by simp only [↓stU, stD, reduceEqDiff, ↓reduceIte, decide_eq_true (show (j : Int) < ((l.length : Nat) : Int) by omega)]) (wpc_skip ?_))
    simp only [↓stU, stD, reduceEqDiff, ↓reduceIte]
    have hia := hl.iaddr hj
    have hld := hl.ld hj
    have hgd : l.getD j 0 = l[j] := by rw [List.getD_eq_getElem?_getD, List.getElem?_eq_getElem hj]; rfl
    have htk : l.take (j + 1) = l.take j ++ [l.getD j 0] := by rw [List.take_add_one, List.getElem?_eq_getElem hj, hgd]; rfl
    have hmem : l.getD j 0 ∈ l := by rw [hgd]; exact List.getElem_mem hj
    generalize l.getD j 0 = w at *
    have w1 : IntKind.i64.wrap ((j : Int) + 1) = ((j + 1 : Nat) : Int) := by rw [wrap_i64 (by omega) (by omega)]; omega
    refine wpc_seq (wpc_block (wpc_seq (wpc_reg ?_)))
    simp only [↓stU, stD, reduceEqDiff, ↓reduceIte, p8]
    refine wsr ?_
    simp only [↓stU, stD, reduceEqDiff, ↓reduceIte, p0, p1, natOf_cast, hia, hld]
    by_cases ho : z = w
    · refine wpc_yes (by simp only [↓stU, stD, reduceEqDiff, ↓reduceIte, decide_eq_true ho]) ?_
      refine wsr ?_
      simp only [↓stU, stD, reduceEqDiff, ↓reduceIte]
      refine wpc_ret ?_
      simp only [↓stU, stD, reduceEqDiff, ↓reduceIte]
      exact ⟨_, rfl, ⟨fun _ => by rw [ho]; exact hmem, fun _ => by omega⟩⟩
    · refine wpc_non (by simp only [↓stU, stD, reduceEqDiff, ↓reduceIte, decide_eq_false ho]) (wpc_skip ?_)
      try simp only [↓stU, stD, reduceEqDiff, ↓reduceIte]
      refine wpc_reg ?_
      simp only [↓stU, stD, reduceEqDiff, ↓reduceIte, p8, w1]
      refine ⟨k - 1, by omega, rfl, rfl, j + 1, by omega, ?_, by simp only [↓stU, stD, reduceEqDiff, ↓reduceIte, p0], by simp only [↓stU, stD, reduceEqDiff, ↓reduceIte, p1], by simp only [↓stU, stD, reduceEqDiff, ↓reduceIte, p7], by simp only [↓stU, stD, reduceEqDiff, ↓reduceIte]⟩
      rw [htk]
      intro h
      rcases List.mem_append.1 h with h | h
      · exact ha h
      · simp at h; exact ho h
  · refine wpc_seq (wpc_non (by simp only [↓stU, stD, reduceEqDiff, ↓reduceIte, decide_eq_false (show ¬ (j : Int) < ((l.length : Nat) : Int) by omega)]) (wpc_exit ?_))
    simp only [↓stU, stD, reduceEqDiff, ↓reduceIte]
    rw [List.take_of_length_le (by omega)] at ha
    refine wsr ?_
    simp only [↓stU, stD, reduceEqDiff, ↓reduceIte]
    refine wpc_ret ?_
    simp only [↓stU, stD, reduceEqDiff, ↓reduceIte]
    exact ⟨_, rfl, ⟨fun h => absurd h (by decide), fun h => absurd h ha⟩⟩
theorem containsI_spec {S : St} {v : AV} {l : List Int} {z : Int} (H : Has fns) (hl : IsSl .i64 S v l) (hlen : l.length ≤ 1000000) : wpf fns (.fn 176 [] []) [v, .int .i64 z] S fun r S' => r = .bool (decide (z ∈ l)) ∧ S' = S := by
  refine wpf_fn H.f176 (by simp) ?_
  simp only [↓stU, stD, reduceEqDiff, ↓reduceIte]
  refine wsr ?_
  simp only [↓stU, stD, reduceEqDiff, ↓reduceIte]
  refine wsr ?_
  simp only [↓stU, stD, reduceEqDiff, ↓reduceIte]
  refine wpo_call ?_
  simp only [↓stU, stD, reduceEqDiff, ↓reduceIte]
  refine wpf_mono (indexI_spec H hl hlen) ?_
  rintro _ Y ⟨⟨j, rfl, hj⟩, hY⟩
  rw [hY]
  have hd : decide ((0 : Int) ≤ j) = decide (z ∈ l) := by rw [Bool.eq_iff_iff, decide_eq_true_iff, decide_eq_true_iff]; exact hj
  simp only [↓stU, stD, reduceEqDiff, ↓reduceIte, hd]
  refine wpc_ret ?_
  simp only [↓stU, stD, reduceEqDiff, ↓reduceIte]
/-- each not below the one before -/
def upTo (l : List Int) (a b : Nat) : Prop := ∀ i, a < i → i < b → ¬ l.getD i 0 < l.getD (i - 1) 0
def Rising (l : List Int) : Prop := upTo l 0 l.length
def SrtI (S : St) (v : AV) (l : List Int) (k : Nat) (A : Act') (X : St) : Prop := A.inr = false ∧ Same S X ∧ ∃ i : Int, (k : Int) = max i 0 ∧ -1 ≤ i ∧ i < max 1 (l.length : Int) ∧ upTo l i.toNat l.length ∧ tmpV 0 A.F = v ∧ tmpV 3 A.F = .int .i64 i
theorem sorted_spec {S : St} {v : AV} {l : List Int} (H : Has fns) (hl : IsSl .i64 S v l) (hlen : l.length ≤ 1000000) : wpf fns (.fn 177 [] []) [v] S fun r S' => (∃ t, r = .bool t ∧ (t = true ↔ Rising l)) ∧ Same S S' := by
  refine wpf_fn H.f177 (by simp) ?_
  simp only [↓stU, stD, reduceEqDiff, ↓reduceIte]
  refine wsr ?_
  simp only [↓stU, stD, reduceEqDiff, ↓reduceIte]
  have w0 : IntKind.i64.wrap (((l.length : Nat) : Int) - 1) = ((l.length : Nat) : Int) - 1 := wrap_i64 (by omega) (by omega)
  refine wss ?_
  simp only [↓stU, stD, reduceEqDiff, ↓reduceIte, hl.len, Int.ofNat_eq_natCast, w0]
  refine wpc_block (wpc_loop (SrtI S v l) ?_ (l.length - 1) _ _ ⟨rfl, Same.refl S, ((l.length : Nat) : Int) - 1, by omega, by omega, by omega, fun i h1 h2 => by omega, by simp only [↓stU, stD, reduceEqDiff, ↓reduceIte], by simp only [↓stU, stD, reduceEqDiff, ↓reduceIte]⟩)
  rintro k ⟨F, inr⟩ X ⟨q0, hX, i, hik, hi1, hi2, hup, p0, p3⟩
  simp only at q0 p0 p3
  subst q0
  have hlX := hl.same hX
  refine wss ?_
  simp only [↓stU, stD, reduceEqDiff, ↓reduceIte, p3]
  by_cases hi : 0 < i
  · refine wpc_yes (by simp only [↓stU, stD, reduceEqDiff, ↓reduceIte, decide_eq_true hi]) (wpc_skip ?_)
    try simp only [↓stU, stD, reduceEqDiff, ↓reduceIte]
    obtain ⟨n, rfl⟩ : ∃ n : Nat, i = (n : Int) := ⟨i.toNat, by omega⟩
    have h1 : n < l.length := by omega
    have h0 : n - 1 < l.length := by omega
    have w1 : IntKind.i64.wrap ((n : Int) - 1) = ((n - 1 : Nat) : Int) := by rw [wrap_i64 (by omega) (by omega)]; omega
    have ia1 := hlX.iaddr h1
    have ia0 := hlX.iaddr h0
    have ld1 := hlX.ld h1
    have ld0 := hlX.ld h0
    have hself := IsSl.self hl
    obtain ⟨b, hb⟩ : ∃ b off cap o, v = .sl b off l.length cap o ∧ b < X.nx := by
      rcases hlX with ⟨h0, _⟩ | ⟨b, off, cap, o, cs, rfl, _, hb, _⟩
      · rw [h0] at h1; simp at h1
      · exact ⟨b, off, cap, o, rfl, hb⟩
    obtain ⟨off, cap, o, rfl, hbX⟩ := hb
    simp only [elemP] at ia1 ia0 ld1 ld0
    refine wpc_seq (wpc_block (wpc_seq (wpc_drd1 (fun _ => False) ?_)))
    intro S1 s1
    simp only [↓sU, sD, reduceEqDiff, ↓reduceIte, reduceAdd, p0, p3, natOf_cast, ia1, w1, ia0, ld1, ld0, hbX, not_false_eq_true]
    refine runD_call0 rfl ?_
    simp only [↓sU, sD, reduceEqDiff, ↓reduceIte, reduceAdd]
    refine wpf_mono (less_spec H) ?_
    rintro _ Y ⟨rfl, hY⟩
    rw [hY]
    refine ⟨Same.refl _, ?_⟩
    try simp only [↓sU, sD, reduceEqDiff, ↓reduceIte, reduceAdd]
    by_cases ho : l.getD n 0 < l.getD (n - 1) 0
    · refine wpc_yes (by simp only [↓sU, sD, reduceEqDiff, ↓reduceIte, reduceAdd, decide_eq_true ho]) ?_
      refine wsr ?_
      simp only [↓sU, sD, reduceEqDiff, ↓reduceIte, reduceAdd]
      refine wpc_ret ?_
      simp only [↓sU, sD, reduceEqDiff, ↓reduceIte, reduceAdd]
      exact ⟨⟨_, rfl, ⟨fun h => (by cases h), fun h => absurd ho (h n (by omega) h1)⟩⟩, hX.trans s1⟩
    · refine wpc_non (by simp only [↓sU, sD, reduceEqDiff, ↓reduceIte, reduceAdd, decide_eq_false ho]) (wpc_skip ?_)
      try simp only [↓sU, sD, reduceEqDiff, ↓reduceIte, reduceAdd]
      refine wpc_reg ?_
      simp only [↓sU, sD, reduceEqDiff, ↓reduceIte, reduceAdd, p3, w1]
      refine ⟨k - 1, by omega, rfl, hX.trans s1, ((n - 1 : Nat) : Int), by omega, by omega, by omega, fun j h1 h2 => ?_, by simp only [↓sU, sD, reduceEqDiff, ↓reduceIte, reduceAdd, p0], by simp only [↓sU, sD, reduceEqDiff, ↓reduceIte, reduceAdd]⟩
      by_cases hj : j = n
      · rw [hj]; exact ho
      · exact hup j (by omega) h2
  · refine wpc_non (by simp only [↓stU, stD, reduceEqDiff, ↓reduceIte, decide_eq_false hi]) (wpc_exit ?_)
    simp only [↓stU, stD, reduceEqDiff, ↓reduceIte]
    refine wsr ?_
    simp only [↓stU, stD, reduceEqDiff, ↓reduceIte]
    refine wpc_ret ?_
    simp only [↓stU, stD, reduceEqDiff, ↓reduceIte]
    exact ⟨⟨_, rfl, ⟨fun _ j h1 h2 => hup j (by omega) h2, fun _ => rfl⟩⟩, hX⟩
end Go.Ev.Gl

namespace Go.Ev.Gl
variable {fns : T AFn}

/-! ## Information sets -/
/-- one behind the first node of a set, from a place on; 0 if there is none -/
def firstN : List PNode → Nat → Nat → Nat
  | [], _, _ => 0
  | x :: l, s, i => if x.kind = 2 ∧ x.info = (i : Int) then s + 1 else firstN l (s + 1) i
def firstsL (g : PGame) : List Int := (List.range g.infos.length).map fun i => ((firstN g.nodes 0 i : Nat) : Int)
def infoAt (g : PGame) (i : Int) : PInfo := g.infos.getD i.toNat ⟨0, 0⟩
def mis (g : PGame) (x : PNode) : Prop := x.kind = 2 ∧ ¬ ((infoAt g x.info).player = x.player ∧ (infoAt g x.info).actions = ((x.next.length : Nat) : Int))
instance misDec (g : PGame) (x : PNode) : Decidable (mis g x) := by unfold mis; exact inferInstance
open Classical in
/-- the error of the sets -/
noncomputable def setsE (g : PGame) : Int := if ∃ x ∈ g.nodes, mis g x then 10 else if (0 : Int) ∈ firstsL g then 18 else if Rising (firstsL g) then 0 else 9
def InfosOk (g : PGame) : Prop := ∀ x ∈ g.nodes, x.kind = 2 → 0 ≤ x.info ∧ x.info < g.infos.length
theorem neq_pair (a b c d : Int) : binV .neq (.struct [(0, .int), (1, .int)]) (.agg [.int .i64 a, .int .i64 b]) (.agg [.int .i64 c, .int .i64 d]) = some (.bool (decide (¬ (a = c ∧ b = d)))) := by
  have k : ∀ y z : Int, eqp .int (.int .i64 y) (.int .i64 z) = some (decide (y = z)) := fun y z => by
    show bsel (keq .i64 .i64) (some (ieq y z)) none = _
    rw [keq_refl, bsel_true, ieq_eq]
    congr 1
  have e : eqv (.struct [(0, .int), (1, .int)]) (.agg [.int .i64 a, .int .i64 b]) (.agg [.int .i64 c, .int .i64 d]) = some (decide (a = c ∧ b = d)) := by
    show eqs [(0, .int), (1, .int)] [.int .i64 a, .int .i64 b] [.int .i64 c, .int .i64 d] = _
    unfold eqs
    show (match eqp .int (.int .i64 a) (.int .i64 c) with | some true => _ | some false => _ | none => _) = _
    rw [k]
    by_cases h : a = c
    · rw [decide_eq_true h]
      unfold eqs
      show (match eqp .int (.int .i64 b) (.int .i64 d) with | some true => _ | some false => _ | none => _) = _
      rw [k]
      by_cases h2 : b = d
      · rw [decide_eq_true h2, decide_eq_true ⟨h, h2⟩]; rfl
      · rw [decide_eq_false h2, decide_eq_false (fun h3 => h2 h3.2)]
    · rw [decide_eq_false h, decide_eq_false (fun h3 => h h3.1)]
  show osel (eqv (.struct [(0, .int), (1, .int)]) _ _) _ = _
  rw [e, osel_some]
  congr 2
  by_cases h : a = c ∧ b = d
  · rw [decide_eq_true h, decide_eq_false (fun h2 => h2 h)]; rfl
  · rw [decide_eq_false h, decide_eq_true h]; rfl
def FstI (S : St) (wb fb : Nat) (g : PGame) (k : Nat) (A : Act') (X : St) : Prop := A.inr = false ∧ Same S X ∧ ∃ F : List Int, k ≤ g.nodes.length ∧ F.length = g.infos.length ∧ (∀ j, j < g.infos.length → F.getD j 0 = ((firstN (g.nodes.drop k) k j : Nat) : Int)) ∧ X.h.get fb = some (.cells (cells64 F) false 0) ∧ fb < X.nx ∧
  tmpV 0 A.F = .ptr wb 0 ∧ tmpV 3 A.F = .sl fb 0 g.infos.length g.infos.length false ∧ tmpV 4 A.F = .int .i64 ((k : Int) - 1)
def TypI (S1 : St) (wb : Nat) (fv nv : AV) (g : PGame) (k : Nat) (A : Act') (X : St) : Prop := A.inr = false ∧ Same S1 X ∧ ∃ i, i + k = g.nodes.length ∧ (∀ x ∈ g.nodes.take i, ¬ mis g x) ∧ tmpV 0 A.F = .ptr wb 0 ∧ tmpV 3 A.F = fv ∧ tmpV 47 A.F = nv ∧ tmpV 48 A.F = .int .i64 ((g.nodes.length : Nat) : Int) ∧ tmpV 49 A.F = .int .i64 (i : Int)

set_option maxHeartbeats 4000000 in
theorem sets_spec {S : St} {wb : Nat} {ps : Int} {nv iv pv dv lv : AV} {g : PGame} (H : Has fns) (hW : WalkB S wb ps nv iv pv dv lv) (hn : IsSlG 6 NodeE S nv g.nodes) (hi : IsSlG 2 InfoE S iv g.infos) (hN : g.nodes.length ≤ 2000) (hI : g.infos.length ≤ 200) (hok : InfosOk g) :
    wpf fns (.fn 165 [] []) [.ptr wb 0] S fun r S' => r = .int .i64 (setsE g) ∧ Same S S' := by
  refine wpf_fn H.f165 (by simp) ?_
  simp only [↓stU, stD, reduceEqDiff, ↓reduceIte, reduceAdd]
  refine wsr ?_
  simp only [↓stU, stD, reduceEqDiff, ↓reduceIte, reduceAdd]
  refine wsr ?_
  simp only [↓stU, stD, reduceEqDiff, ↓reduceIte, reduceAdd, evQ_nilchk, nilchk_ptr, evQ_faddr, faddr_ptr, ld6_2 hW.1, hi.len]
  refine wpo_al (evA_mk (n := g.infos.length) (by simp only [↓stU, stD, reduceEqDiff, ↓reduceIte, reduceAdd, natOf_cast]) (by simp only [↓stU, stD, reduceEqDiff, ↓reduceIte, reduceAdd, natOf_cast]) (by unfold room; omega) (by unfold room; omega)) ?_
  intro S1 s1 n1 c1
  simp only [↓stU, stD, reduceEqDiff, ↓reduceIte, reduceAdd]
  have hz : repeatL [AV.int .i64 0] g.infos.length = cells64 (List.replicate g.infos.length 0) := by rw [repeatL_one]; simp [cells64]
  rw [hz] at c1
  have hW1 := hW.same s1
  have w0 : IntKind.i64.wrap (((g.nodes.length : Nat) : Int) - 1) = ((g.nodes.length : Nat) : Int) - 1 := wrap_i64 (by omega) (by omega)
  refine wpc_seq (wpc_mono (Q := fun o A' X => o = .normal ∧ FstI S wb S.nx g 0 A' X) (wpc_seq (wpc_reg ?_)) ?_)
  · simp only [↓stU, stD, reduceEqDiff, ↓reduceIte, reduceAdd, evQ_nilchk, nilchk_ptr, evQ_faddr, faddr_ptr, ld6_1 hW1.1, hn.len, w0]
    refine wpc_block (wpc_loop (FstI S wb S.nx g) ?_ g.nodes.length _ _ ⟨rfl, s1, _, Nat.le_refl _, List.length_replicate .., fun j hj => ?_, c1, by omega, by simp only [↓stU, stD, reduceEqDiff, ↓reduceIte, reduceAdd], by simp only [↓stU, stD, reduceEqDiff, ↓reduceIte, reduceAdd], by simp only [↓stU, stD, reduceEqDiff, ↓reduceIte, reduceAdd]⟩)
    rotate_left
    · rw [List.drop_of_length_le (Nat.le_refl _), List.getD_eq_getElem?_getD, List.getElem?_replicate]
      split <;> rfl
    rintro k ⟨F, inr⟩ X ⟨q0, hX, Fl, hkN, hFl, hF, hfb, hfbX, p0, p3, p4⟩
    simp only at q0 p0 p3 p4
    subst q0
    refine wss ?_
    simp only [↓stU, stD, reduceEqDiff, ↓reduceIte, reduceAdd, p4]
    by_cases hk : 0 < k
    · refine wpc_yes (by simp only [↓stU, stD, reduceEqDiff, ↓reduceIte, reduceAdd, decide_eq_true (show (0 : Int) ≤ (k : Int) - 1 by omega)]) (wpc_skip ?_)
      try simp only [↓stU, stD, reduceEqDiff, ↓reduceIte, reduceAdd]
      have e1 : (k : Int) - 1 = ((k - 1 : Nat) : Int) := by omega
      rw [e1] at p4
      have hlt : k - 1 < g.nodes.length := by omega
      obtain ⟨x, hx⟩ : ∃ x, g.nodes[k - 1]? = some x := ⟨_, List.getElem?_eq_getElem hlt⟩
      have hxm := List.mem_of_getElem? hx
      have hWX := hW.same hX
      obtain ⟨e, b, q, hia, hb, he, ⟨a, bb, cc, rfl, ha, hbb, hcc⟩, hag, _⟩ := IsSlG.at (IsSlG.same (E := NodeE) firm_node hn hX) (by decide) hx
      have hdrop : g.nodes.drop (k - 1) = x :: g.nodes.drop k := by
        rw [List.drop_eq_getElem_cons hlt, show k - 1 + 1 = k by omega]
        congr 1
        rw [List.getElem?_eq_getElem hlt] at hx
        exact Option.some.inj hx
      have w1 : IntKind.i64.wrap (((k - 1 : Nat) : Int) + 1) = (k : Int) := by rw [wrap_i64 (by omega) (by omega)]; omega
      have w2 : IntKind.i64.wrap (((k - 1 : Nat) : Int) - 1) = ((k - 1 : Nat) : Int) - 1 := wrap_i64 (by omega) (by omega)
      refine wpc_seq (wpc_block (wpc_seq (wpc_reg ?_)))
      simp only [↓stU, stD, reduceEqDiff, ↓reduceIte, reduceAdd, p0, p4, evQ_nilchk, nilchk_ptr, evQ_faddr, faddr_ptr, ld6_1 hWX.1, natOf_cast, hia, hag]
      refine wpo_alloc ?_
      intro X1 x1 m1 d1
      refine wpo_st (b := X.nx) (by simp only [↓stU, stD, reduceEqDiff, ↓reduceIte, reduceAdd]) (by simp only [↓stU, stD, reduceEqDiff, ↓reduceIte, reduceAdd]; exact cells_agg _) d1 rfl rfl ?_
      intro X2 x2 m2 d2
      simp only [↓stU, stD, reduceEqDiff, ↓reduceIte, reduceAdd]
      have hX2 : Same X X2 := x2.same x1 (Nat.le_refl _)
      have hfb2 : X2.h.get S.nx = some (.cells (cells64 Fl) false 0) := by rw [hX2.2 _ hfbX]; exact hfb
      refine wsr ?_
      simp only [↓stU, stD, reduceEqDiff, ↓reduceIte, reduceAdd, evQ_faddr, faddr_ptr, ld6_0 d2]
      have hfin : ∀ (G : Fr) (Y : St) (Fl' : List Int), tmpV 0 G = .ptr wb 0 → tmpV 3 G = .sl S.nx 0 g.infos.length g.infos.length false → tmpV 4 G = .int .i64 ((k - 1 : Nat) : Int) → Same S Y → Fl'.length = g.infos.length → (∀ j, j < g.infos.length → Fl'.getD j 0 = ((firstN (g.nodes.drop (k - 1)) (k - 1) j : Nat) : Int)) → Y.h.get S.nx = some (.cells (cells64 Fl') false 0) → S.nx < Y.nx → wpo fns [⟨(some 24),(.q (.mv (.t 4))),none,0⟩, ⟨(some 25),(.q (.bin .sub (.p .int) (.t 24) (.c (.int .i64 (.ofNat 1))))),none,0⟩, ⟨(some 4),(.q (.mv (.t 25))),none,0⟩] G Y fun F' S' => ∃ k', k' < k ∧ FstI S wb S.nx g k' ⟨F', false⟩ S' := fun G Y Fl' g0 g3 g4 hY h1 h2 h3 h4 => by
        simp only [↓stU, stD, reduceEqDiff, ↓reduceIte, reduceAdd, g4, w2]
        exact ⟨k - 1, by omega, rfl, hY, Fl', by omega, h1, h2, h3, h4, by simp only [↓stU, stD, reduceEqDiff, ↓reduceIte, reduceAdd, g0], by simp only [↓stU, stD, reduceEqDiff, ↓reduceIte, reduceAdd, g3], by simp only [↓stU, stD, reduceEqDiff, ↓reduceIte, reduceAdd]⟩
      by_cases hk2 : x.kind = 2
      · refine wpc_yes (by simp only [↓stU, stD, reduceEqDiff, ↓reduceIte, reduceAdd, decide_eq_true hk2]) ?_
        obtain ⟨i0, i1⟩ := hok x hxm hk2
        obtain ⟨n, hn'⟩ : ∃ n : Nat, x.info = (n : Int) := ⟨x.info.toNat, by omega⟩
        have hni : n < g.infos.length := by omega
        rw [hn'] at d2
        have hif := row_ia (b := S.nx) (o := false) hni
        refine wpc_reg ?_
        simp only [↓stU, stD, reduceEqDiff, ↓reduceIte, reduceAdd, p0, p3, p4, evQ_faddr, faddr_ptr, ld6_2 d2, w1, natOf_cast, hif]
        refine wpo_x (fun call => by simp only [↓stU, stD, reduceEqDiff, ↓reduceIte, reduceAdd, evX_st, cells_int]; exact st64 (S := X2) hfb2 (by rw [hFl]; exact hni)) ?_
        simp only [↓stU, stD, reduceEqDiff, ↓reduceIte, reduceAdd]
        refine wpc_reg ?_
        refine wpo_mono (hfin _ _ (Fl.set n (k : Int)) (by simp only [↓stU, stD, reduceEqDiff, ↓reduceIte, reduceAdd, p0]) (by simp only [↓stU, stD, reduceEqDiff, ↓reduceIte, reduceAdd, p3]) (by simp only [↓stU, stD, reduceEqDiff, ↓reduceIte, reduceAdd, p4]) (((hX.trans hX2)).put (Nat.le_refl _) _) (by rw [List.length_set]; exact hFl) (fun j hj => ?_) (by simp only; rw [T.get_set, if_pos rfl]) (by simp only; omega)) fun F' S' hh => hh
        rw [getD_set (by rw [hFl]; exact hni), hdrop, hF j hj]
        simp only [firstN]
        by_cases hjn : j = n
        · rw [if_pos hjn, if_pos ⟨hk2, by rw [hn', hjn]⟩]; omega
        · rw [if_neg hjn, if_neg (fun h => hjn (by omega)), show k - 1 + 1 = k by omega]
      · refine wpc_non (by simp only [↓stU, stD, reduceEqDiff, ↓reduceIte, reduceAdd, decide_eq_false hk2]) (wpc_skip ?_)
        try simp only [↓stU, stD, reduceEqDiff, ↓reduceIte, reduceAdd]
        refine wpc_reg ?_
        refine wpo_mono (hfin _ X2 Fl (by simp only [↓stU, stD, reduceEqDiff, ↓reduceIte, reduceAdd, p0]) (by simp only [↓stU, stD, reduceEqDiff, ↓reduceIte, reduceAdd, p3]) (by simp only [↓stU, stD, reduceEqDiff, ↓reduceIte, reduceAdd, p4]) (hX.trans hX2) hFl (fun j hj => ?_) hfb2 (by omega)) fun F' S' hh => hh
        rw [hdrop, hF j hj]
        simp only [firstN]
        rw [if_neg (fun h => hk2 h.1), show k - 1 + 1 = k by omega]
    · refine wpc_non (by simp only [↓stU, stD, reduceEqDiff, ↓reduceIte, reduceAdd, decide_eq_false (show ¬ (0 : Int) ≤ (k : Int) - 1 by omega)]) (wpc_exit ?_)
      simp only [↓stU, stD, reduceEqDiff, ↓reduceIte, reduceAdd]
      have hk0 : k = 0 := by omega
      subst hk0
      exact ⟨rfl, hX, Fl, hkN, hFl, hF, hfb, hfbX, by simp only [↓stU, stD, reduceEqDiff, ↓reduceIte, reduceAdd, p0], by simp only [↓stU, stD, reduceEqDiff, ↓reduceIte, reduceAdd, p3], by simp only [↓stU, stD, reduceEqDiff, ↓reduceIte, reduceAdd, p4]⟩
  rintro o ⟨F, inr⟩ S2 ⟨rfl, q0, s2, Fl, _, hFl, hF, hfb, hfb2, p0, p3, p4⟩
  simp only at q0 p0 p3 p4
  subst q0
  have hFeq : Fl = firstsL g := by
    unfold firstsL
    refine List.ext_getElem (by simp [hFl]) fun j j1 j2 => ?_
    have h1 := hF j (by omega)
    rw [List.getD_eq_getElem?_getD, List.getElem?_eq_getElem j1, List.drop_zero] at h1
    rw [List.getElem_map, List.getElem_range]
    exact h1
  subst hFeq
  have hW2 := hW.same s2
  have hn2 := IsSlG.same (E := NodeE) firm_node hn s2
  have hi2 := IsSlG.same (E := InfoE) firm_info hi s2
  try simp only [↓stU, stD, reduceEqDiff, ↓reduceIte, reduceAdd]
  refine wpc_seq (wpc_mono (Q := fun o A' X => (o = .normal ∧ TypI S2 wb (.sl S.nx 0 g.infos.length g.infos.length false) nv g 0 A' X) ∨ (o = .ret ∧ Same S2 X ∧ (∃ x ∈ g.nodes, mis g x) ∧ tmpV 2 A'.F = .int .i64 10)) (wpc_seq (wpc_reg ?_)) ?_)
  · simp only [↓stU, stD, reduceEqDiff, ↓reduceIte, reduceAdd, p0, evQ_nilchk, nilchk_ptr, evQ_faddr, faddr_ptr, ld6_1 hW2.1, hn2.len]
    refine wpc_block (wpc_loop (TypI S2 wb (.sl S.nx 0 g.infos.length g.infos.length false) nv g) ?_ g.nodes.length _ _ ⟨rfl, Same.refl _, 0, by omega, fun x hx => (by simp at hx), by simp only [↓stU, stD, reduceEqDiff, ↓reduceIte, reduceAdd, p0], by simp only [↓stU, stD, reduceEqDiff, ↓reduceIte, reduceAdd, p3], by simp only [↓stU, stD, reduceEqDiff, ↓reduceIte, reduceAdd], by simp only [↓stU, stD, reduceEqDiff, ↓reduceIte, reduceAdd], by simp only [↓stU, stD, reduceEqDiff, ↓reduceIte, reduceAdd]⟩)
    clear p0 p3 p4
    rintro k ⟨F, inr⟩ X ⟨q0, hX, i, hik, hm, p0, p3, p47, p48, p49⟩
    simp only at q0 p0 p3 p47 p48 p49
    subst q0
    refine wsr ?_
    simp only [↓stU, stD, reduceEqDiff, ↓reduceIte, reduceAdd, p48, p49]
    by_cases hlt : i < g.nodes.length
    · refine wpc_seq (wpc_yes (by simp only [↓stU, stD, reduceEqDiff, ↓reduceIte, reduceAdd, decide_eq_true (show (i : Int) < ((g.nodes.length : Nat) : Int) by omega)]) (wpc_skip ?_))
      simp only [↓stU, stD, reduceEqDiff, ↓reduceIte, reduceAdd]
      obtain ⟨x, hx⟩ : ∃ x, g.nodes[i]? = some x := ⟨_, List.getElem?_eq_getElem hlt⟩
      have hxm := List.mem_of_getElem? hx
      obtain ⟨e, b, q, hia, hb, he, ⟨a, bb, cc, rfl, ha, hbb, hcc⟩, hag, _⟩ := IsSlG.at (IsSlG.same (E := NodeE) firm_node hn2 hX) (by decide) hx
      have w1 : IntKind.i64.wrap ((i : Int) + 1) = ((i + 1 : Nat) : Int) := by rw [wrap_i64 (by omega) (by omega)]; omega
      refine wpc_seq (wpc_block (wpc_seq (wpc_reg ?_)))
      simp only [↓stU, stD, reduceEqDiff, ↓reduceIte, reduceAdd, p47, p49, natOf_cast, hia, hag]
      refine wpo_alloc ?_
      intro X1 x1 m1 d1
      refine wpo_st (b := X.nx) (by simp only [↓stU, stD, reduceEqDiff, ↓reduceIte, reduceAdd]) (by simp only [↓stU, stD, reduceEqDiff, ↓reduceIte, reduceAdd]; exact cells_agg _) d1 rfl rfl ?_
      intro X2 x2 m2 d2
      simp only [↓stU, stD, reduceEqDiff, ↓reduceIte, reduceAdd]
      have hX2 : Same X X2 := x2.same x1 (Nat.le_refl _)
      have hS2X := hX.trans hX2
      have hWX := hW2.same hS2X
      have hla := (ha.same hX2).len
      have hsa := IsSl.self ha
      have hsi := IsSlG.self hi
      refine wpc_seq (wpc_mono (Q := fun o A' Y => o = .normal ∧ A'.inr = false ∧ Same X2 Y ∧ tmpV 0 A'.F = .ptr wb 0 ∧ tmpV 3 A'.F = .sl S.nx 0 g.infos.length g.infos.length false ∧ tmpV 47 A'.F = nv ∧ tmpV 48 A'.F = .int .i64 ((g.nodes.length : Nat) : Int) ∧ tmpV 49 A'.F = .int .i64 (i : Int) ∧ tmpV 73 A'.F = .bool (decide (mis g x))) (wpc_drq ?_) ?_)
      · by_cases hk2 : x.kind = 2
        · obtain ⟨i0, i1⟩ := hok x hxm hk2
          obtain ⟨n, hn'⟩ : ∃ n : Nat, x.info = (n : Int) := ⟨x.info.toNat, by omega⟩
          have hni : n < g.infos.length := by omega
          obtain ⟨y, hy⟩ : ∃ y, g.infos[n]? = some y := ⟨_, List.getElem?_eq_getElem hni⟩
          obtain ⟨e', b', q', hia', hb', he', rfl, hag', _⟩ := IsSlG.at (IsSlG.same (E := InfoE) firm_info hi2 hS2X) (by decide) hy
          have hya : infoAt g x.info = y := by unfold infoAt; rw [hn', List.getD_eq_getElem?_getD, show ((n : Int)).toNat = n from rfl, hy]; rfl
          have hmis : decide (mis g x) = decide (¬ (y.player = x.player ∧ y.actions = ((x.next.length : Nat) : Int))) := by
            rw [Bool.eq_iff_iff, decide_eq_true_iff, decide_eq_true_iff]
            unfold mis
            rw [hya]
            exact ⟨fun h => h.2, fun h => ⟨hk2, h⟩⟩
          rw [hmis]
          rw [hn'] at d2
          have hs2 : sameV (.agg [.int .i64 y.player, .int .i64 y.actions]) (.agg [.int .i64 y.player, .int .i64 y.actions]) = true := agg2_self (same_int ..) (same_int ..)
          simp only [↓stU, stD, reduceEqDiff, ↓reduceIte, reduceAdd, p0, p3, p47, p48, p49, evQ_nilchk, isLoad_nilchk, nilchk_ptr, evQ_faddr, isLoad_faddr, faddr_ptr, ld6_0 d2, ld6_1 d2, ld6_2 d2, ld6_3 d2, ld6_2 hWX.1, natOf_cast, hia', hag', hla, hsa, hsi, hs2, Int.ofNat_eq_natCast, isLoad_build, evQ_f2, cells_int, neq_pair, decide_eq_true hk2]
          exact Same.nx _ _
        · rw [decide_eq_false (show ¬ mis g x from fun h => hk2 h.1)]
          simp only [↓stU, stD, reduceEqDiff, ↓reduceIte, reduceAdd, p0, p3, p47, p48, p49, evQ_faddr, isLoad_faddr, faddr_ptr, ld6_0 d2, decide_eq_false hk2]
          exact Same.nx _ _
      clear p0 p3 p47 p48 p49
      rintro o ⟨F, inr⟩ Y ⟨rfl, q0, hY, p0, p3, p47, p48, p49, pb⟩
      simp only at q0 p0 p3 p47 p48 p49 pb
      subst q0
      have hS2Y := hS2X.trans hY
      try simp only [↓stU, stD, reduceEqDiff, ↓reduceIte, reduceAdd]
      by_cases hmx : mis g x
      · refine wpc_yes (by simp only [↓stU, stD, reduceEqDiff, ↓reduceIte, reduceAdd, pb, decide_eq_true hmx]) ?_
        refine wsr ?_
        simp only [↓stU, stD, reduceEqDiff, ↓reduceIte, reduceAdd]
        refine wpc_ret ?_
        simp only [↓stU, stD, reduceEqDiff, ↓reduceIte, reduceAdd]
        exact .inr ⟨hS2Y, x, hxm, hmx⟩
      · refine wpc_non (by simp only [↓stU, stD, reduceEqDiff, ↓reduceIte, reduceAdd, pb, decide_eq_false hmx]) (wpc_skip ?_)
        try simp only [↓stU, stD, reduceEqDiff, ↓reduceIte, reduceAdd]
        refine wpc_reg ?_
        simp only [↓stU, stD, reduceEqDiff, ↓reduceIte, reduceAdd, p49, w1]
        refine ⟨k - 1, by omega, rfl, hS2Y, i + 1, by omega, fun y hy => ?_, by simp only [↓stU, stD, reduceEqDiff, ↓reduceIte, reduceAdd, p0], by simp only [↓stU, stD, reduceEqDiff, ↓reduceIte, reduceAdd, p3], by simp only [↓stU, stD, reduceEqDiff, ↓reduceIte, reduceAdd, p47], by simp only [↓stU, stD, reduceEqDiff, ↓reduceIte, reduceAdd, p48], by simp only [↓stU, stD, reduceEqDiff, ↓reduceIte, reduceAdd]⟩
        rw [List.take_add_one, hx] at hy
        rcases List.mem_append.1 hy with h | h
        · exact hm y h
        · simp at h; rw [h]; exact hmx
    · refine wpc_seq (wpc_non (by simp only [↓stU, stD, reduceEqDiff, ↓reduceIte, reduceAdd, decide_eq_false (show ¬ (i : Int) < ((g.nodes.length : Nat) : Int) by omega)]) (wpc_exit ?_))
      simp only [↓stU, stD, reduceEqDiff, ↓reduceIte, reduceAdd]
      have hk0 : k = 0 := by omega
      subst hk0
      exact .inl ⟨rfl, hX, i, hik, hm, by simp only [↓stU, stD, reduceEqDiff, ↓reduceIte, reduceAdd, p0], by simp only [↓stU, stD, reduceEqDiff, ↓reduceIte, reduceAdd, p3], by simp only [↓stU, stD, reduceEqDiff, ↓reduceIte, reduceAdd, p47], by simp only [↓stU, stD, reduceEqDiff, ↓reduceIte, reduceAdd, p48], by simp only [↓stU, stD, reduceEqDiff, ↓reduceIte, reduceAdd, p49]⟩
  clear p0 p3 p4
  rintro o ⟨F, inr⟩ X (⟨rfl, q0, hX, i, hik, hm, p0, p3, p47, p48, p49⟩ | ⟨rfl, hX, hmx, p2⟩)
  rotate_left
  · simp only at p2
    simp only [↓stU, stD, reduceEqDiff, ↓reduceIte, reduceAdd, p2]
    unfold setsE
    rw [if_pos hmx]
    exact ⟨rfl, s2.trans hX⟩
  simp only at q0 p0 p3
  subst q0
  rw [List.take_of_length_le (by omega)] at hm
  unfold setsE
  rw [if_neg (fun ⟨x, h1, h2⟩ => hm x h1 h2)]
  have sX := s2.trans hX
  have hfX : X.h.get S.nx = some (.cells (cells64 (firstsL g)) false 0) := by rw [hX.2 _ hfb2]; exact hfb
  have hrow := row_sl (N := g.infos.length) hfX (Nat.lt_of_lt_of_le hfb2 hX.1) hFl
  try simp only [↓stU, stD, reduceEqDiff, ↓reduceIte, reduceAdd]
  refine wss ?_
  simp only [↓stU, stD, reduceEqDiff, ↓reduceIte, reduceAdd, p3]
  refine wpo_call ?_
  simp only [↓stU, stD, reduceEqDiff, ↓reduceIte, reduceAdd]
  refine wpf_mono (containsI_spec H hrow (by omega)) ?_
  rintro _ Y ⟨rfl, hY⟩
  rw [hY]
  try simp only [↓stU, stD, reduceEqDiff, ↓reduceIte, reduceAdd]
  by_cases h0 : (0 : Int) ∈ firstsL g
  · rw [if_pos h0]
    refine wpc_yes (by simp only [↓stU, stD, reduceEqDiff, ↓reduceIte, reduceAdd, decide_eq_true h0]) ?_
    refine wsr ?_
    simp only [↓stU, stD, reduceEqDiff, ↓reduceIte, reduceAdd]
    refine wpc_ret ?_
    simp only [↓stU, stD, reduceEqDiff, ↓reduceIte, reduceAdd]
    exact sX
  rw [if_neg h0]
  refine wpc_non (by simp only [↓stU, stD, reduceEqDiff, ↓reduceIte, reduceAdd, decide_eq_false h0]) (wpc_skip ?_)
  try simp only [↓stU, stD, reduceEqDiff, ↓reduceIte, reduceAdd]
  refine wss ?_
  simp only [↓stU, stD, reduceEqDiff, ↓reduceIte, reduceAdd, p3]
  refine wpo_call ?_
  simp only [↓stU, stD, reduceEqDiff, ↓reduceIte, reduceAdd]
  refine wpf_mono (sorted_spec H hrow (by omega)) ?_
  rintro _ Y ⟨⟨t, rfl, ht⟩, hY⟩
  simp only [↓stU, stD, reduceEqDiff, ↓reduceIte, reduceAdd, un_not]
  cases t with
  | false =>
    rw [if_neg (fun h => by have := ht.2 h; cases this)]
    refine wpc_yes (by simp only [↓stU, stD, reduceEqDiff, ↓reduceIte, reduceAdd]; rfl) ?_
    refine wsr ?_
    simp only [↓stU, stD, reduceEqDiff, ↓reduceIte, reduceAdd]
    refine wpc_ret ?_
    simp only [↓stU, stD, reduceEqDiff, ↓reduceIte, reduceAdd]
    exact sX.trans hY
  | true =>
    rw [if_pos (ht.1 rfl)]
    refine wpc_non (by simp only [↓stU, stD, reduceEqDiff, ↓reduceIte, reduceAdd]; rfl) (wpc_skip ?_)
    try simp only [↓stU, stD, reduceEqDiff, ↓reduceIte, reduceAdd]
    refine wsr ?_
    simp only [↓stU, stD, reduceEqDiff, ↓reduceIte, reduceAdd]
    refine wpc_ret ?_
    simp only [↓stU, stD, reduceEqDiff, ↓reduceIte, reduceAdd]
    exact sX.trans hY
end Go.Ev.Gl

namespace Go.Ev.Gl
variable {fns : T AFn}

/-! ## The error of a game -/
def badG (g : PGame) : Prop := g.players < 1 ∨ (4 : Int) < g.players ∨ ((g.nodes.length : Nat) : Int) < 1 ∨ (2000 : Int) < ((g.nodes.length : Nat) : Int) ∨ (200 : Int) < ((g.infos.length : Nat) : Int)
instance badGDec (g : PGame) : Decidable (badG g) := by unfold badG; exact inferInstance
def nodesE (ps : Int) (ni : Nat) : List PNode → Int
  | [] => 0
  | x :: l => if nodeE ps ni x ≠ 0 then nodeE ps ni x else nodesE ps ni l
def walkG (g : PGame) : Option (List Trip) := walkL g.nodes.length (nextOf g) (g.nodes.length + 1) 0 (-1) 0
noncomputable def formE (g : PGame) : Int :=
  if badG g then 2 else if nodesE g.players g.infos.length g.nodes ≠ 0 then nodesE g.players g.infos.length g.nodes else
  match walkG g with
  | none => 9
  | some T => if T.length ≠ g.nodes.length then 9 else if 40 < maxD 0 T then 5 else setsE g
theorem nodesE_all {ps : Int} {ni : Nat} : ∀ {l : List PNode}, nodesE ps ni l = 0 → ∀ x ∈ l, nodeE ps ni x = 0
  | [], _, x, hx => by cases hx
  | y :: l, h, x, hx => by
    simp only [nodesE] at h
    split at h
    · rename_i hne; exact absurd h hne
    · rename_i he
      rcases List.mem_cons.1 hx with rfl | hx
      · exact Decidable.not_not.1 he
      · exact nodesE_all h x hx
theorem node_next {ps : Int} {ni : Nat} {x : PNode} (h : nodeE ps ni x = 0) : x.next.length ≤ 1000 := by
  unfold nodeE at h
  split at h
  · split at h
    · cases h
    · rename_i hb
      unfold badC at hb
      omega
  · split at h
    · split at h
      · cases h
      · rename_i hb
        unfold badM at hb
        omega
    · split at h
      · split at h
        · cases h
        · rename_i hb
          unfold badE at hb
          omega
      · cases h
theorem node_info {ps : Int} {ni : Nat} {x : PNode} (h : nodeE ps ni x = 0) (h2 : x.kind = 2) : 0 ≤ x.info ∧ x.info < ni := by
  unfold nodeE at h
  rw [if_neg (by omega), if_pos h2] at h
  split at h
  · cases h
  · split at h
    · cases h
    · omega
/-! ### a store into a cell, some blocks not laid yet -/
theorem stc {S : St} {b p : Nat} {w : AV} {cs : List AV} {o : Bool} {sz : Nat} (h : S.h.get b = some (.cells cs o sz)) (hp : p < cs.length) : xStV (.ptr b p) 1 [w] S = some (.undef, ⟨S.h.set b (some (.cells (cs.set p w) o sz)), S.nx⟩) := by
  have hput : put cs p [w] = some (cs.set p w) := by
    rw [put_eq, if_pos (by simp; omega)]
    congr 1
    rw [List.set_eq_take_append_cons_drop, if_pos hp]
    simp
  simp only [xStV, storeN, h, osel_some, storeB, hput]
  rfl
theorem runD_stc {W : Nat → Prop} {h0 h' : T AB} {base m i : Nat} {l : List AO} {F : Fr} {S : St} {ps ps' : List Pend} {last : Option Nat} {Q : Fr → St → List Pend → Prop} {x v : Opd} {b p sz : Nat} {w : AV} {cs : List AV} {o : Bool} (hfl : flush m ps S.h = (ps', h')) (h : inMask last m = true) (hx : x.val F = .ptr b p) (hv : (v.val F).cells = some [w]) (hb : h'.get b = some (.cells cs o sz)) (hp : p < cs.length) (hW : W b)
    (hr : runD fns W h0 base l (i + 1) F ⟨h'.set b (some (.cells (cs.set p w) o sz)), S.nx⟩ ps' (some i) Q) : runD fns W h0 base (⟨none, .x (.st 1 x v), none, m⟩ :: l) i F S ps last Q := by
  refine runD_st (S1 := ⟨h'.set b (some (.cells (cs.set p w) o sz)), S.nx⟩) h ?_ ?_ ?_
  · rw [hfl, hv, osel_some, hx]; exact stc (S := ⟨h', S.nx⟩) hb hp
  · rw [hfl]
    refine ⟨Nat.le_refl _, fun c hc hw => ?_⟩
    simp only
    rw [T.get_set, if_neg (show ¬ c = b from fun e => hw (by rw [e]; exact hW))]
  · rw [hfl]; exact hr
end Go.Ev.Gl

namespace Go.Ev.Gl
variable {fns : T AFn}

/-! ## A game walked -/
theorem lg3_0 {h : T AB} {b : Nat} {x0 x1 x2 : AV} {o : Bool} {s : Nat} (hb : h.get b = some (.cells [x0, x1, x2] o s)) : qLdV (.ptr b (0 + 0)) false 1 h = some x0 := ldc hb rfl
theorem lg3_1 {h : T AB} {b : Nat} {x0 x1 x2 : AV} {o : Bool} {s : Nat} (hb : h.get b = some (.cells [x0, x1, x2] o s)) : qLdV (.ptr b (0 + 1)) false 1 h = some x1 := ldc hb rfl
theorem lg3_2 {h : T AB} {b : Nat} {x0 x1 x2 : AV} {o : Bool} {s : Nat} (hb : h.get b = some (.cells [x0, x1, x2] o s)) : qLdV (.ptr b (0 + 2)) false 1 h = some x2 := ldc hb rfl
theorem lg3_a {h : T AB} {b : Nat} {x0 x1 x2 : AV} {o : Bool} {s : Nat} (hb : h.get b = some (.cells [x0, x1, x2] o s)) : qLdV (.ptr b 0) true 3 h = some (.agg [x0, x1, x2]) := ldall hb rfl
theorem flush_skip {m j id : Nat} {bl : AB} {ps : List Pend} {h : T AB} (ht : Nat.testBit m j = false) : flush m (⟨j, id, bl⟩ :: ps) h = (⟨j, id, bl⟩ :: (flush m ps h).1, (flush m ps h).2) := by
  conv => lhs; unfold flush
  rw [show Nat.testBit m (Pend.mk j id bl).i = false from ht, bsel_false]
theorem flush_on {m j id : Nat} {bl : AB} {ps : List Pend} {h : T AB} (ht : Nat.testBit m j = true) : flush m (⟨j, id, bl⟩ :: ps) h = flush m ps (h.set id (some bl)) := by
  conv => lhs; unfold flush
  rw [show Nat.testBit m (Pend.mk j id bl).i = true from ht, bsel_true]
theorem contA_mk {W : Nat → Prop} {h0 : T AB} {base i : Nat} {l : List AO} {F : Fr} {S : St} {ps : List Pend} {last : Option Nat} {Q : Fr → St → List Pend → Prop} {d : Option Nat} {t s bytes n : Nat} {z : List AV} {lo co : Opd} (hl : natOf (lo.val F) = some n) (hc : natOf (co.val F) = some n) (h1 : n ≤ room) (h2 : bytes * n ≤ room)
    (hr : runD fns W h0 base l (i + 1) (putF d F (.sl (base + i) 0 n n false)) S (⟨i, base + i, .cells (repeatL z n) false 0⟩ :: ps) last Q) : contA fns W h0 base (evA (.mkSlice t s bytes z lo co) F (base + i)) d l i F S ps last Q := by
  rw [evA_mk hl hc h1 h2, contA_some]
  exact hr
theorem RowOf.full {sel : Trip → Int} {P P' : List Int} {T : List Trip} (h : RowOf sel P P' T 0) (hl : T.length = P.length) : P' = T.map sel := by
  refine List.ext_getElem (by rw [List.length_map, h.1, hl]) fun j j1 j2 => ?_
  have h1 := h.2 j
  rw [List.length_map] at j2
  unfold covL at h1
  rw [if_pos (Nat.zero_le _), Nat.sub_zero, List.getElem?_eq_getElem j2, List.getD_eq_getElem?_getD, List.getElem?_eq_getElem j1] at h1
  rw [List.getElem_map]
  exact h1
theorem walkG_head {g : PGame} {T : List Trip} (h : walkG g = some T) : ∃ e L, T = (-1, 0, e) :: L := by
  unfold walkG at h
  simp only [walkL] at h
  split at h
  · obtain ⟨L, _, rfl⟩ := Option.map_eq_some_iff.1 h
    exact ⟨_, _, rfl⟩
  · cases h
theorem maxI_map (m : Int) (L : List Trip) : maxI m (L.map (·.2.1)) = maxD m L := by
  unfold maxI maxD
  rw [List.foldl_map]
theorem six_gen {P : T AB → Prop} {h : T AB} {w b1 b2 b3 : Nat} {c1 c2 c3 z : Option AB} (n1 : w ≠ b1) (n2 : w ≠ b2) (n3 : w ≠ b3) (n4 : b1 ≠ b2) (n5 : b1 ≠ b3) (n6 : b2 ≠ b3)
    (H : ∀ h' : T AB, h'.get w = c3 → h'.get b1 = z → h'.get b2 = z → h'.get b3 = z → (∀ c, c ≠ w → c ≠ b1 → c ≠ b2 → c ≠ b3 → h'.get c = h.get c) → P h') : P ((((((h.set b1 z).set w c1).set b2 z).set w c2).set b3 z).set w c3) := by
  refine H _ ?_ ?_ ?_ ?_ fun c h1 h2 h3 h4 => ?_
  · rw [T.get_set, if_pos rfl]
  · rw [T.get_set, if_neg (Ne.symm n1), T.get_set, if_neg n5, T.get_set, if_neg (Ne.symm n1), T.get_set, if_neg n4, T.get_set, if_neg (Ne.symm n1), T.get_set, if_pos rfl]
  · rw [T.get_set, if_neg (Ne.symm n2), T.get_set, if_neg n6, T.get_set, if_neg (Ne.symm n2), T.get_set, if_pos rfl]
  · rw [T.get_set, if_neg (Ne.symm n3), T.get_set, if_pos rfl]
  · rw [T.get_set, if_neg h1, T.get_set, if_neg h4, T.get_set, if_neg h1, T.get_set, if_neg h3, T.get_set, if_neg h1, T.get_set, if_neg h2]
def WokI (S2 : St) (gb wb : Nat) (nv : AV) (g : PGame) (k : Nat) (A : Act') (X : St) : Prop := A.inr = false ∧ Same S2 X ∧ ∃ i, i + k = g.nodes.length ∧ nodesE g.players g.infos.length g.nodes = nodesE g.players g.infos.length (g.nodes.drop i) ∧ tmpV 1 A.F = .ptr gb 0 ∧ tmpV 4 A.F = .ptr wb 0 ∧ tmpV 40 A.F = nv ∧ tmpV 41 A.F = .int .i64 ((g.nodes.length : Nat) : Int) ∧ tmpV 42 A.F = .int .i64 (i : Int)
/-- what a game is, walked -/
def Walked (S S' : St) (p nv iv : AV) (g : PGame) : Prop := ∃ (wb pb db lb : Nat) (T : List Trip), p = .ptr wb 0 ∧ S.nx ≤ wb ∧ walkG g = some T ∧ T.length = g.nodes.length ∧ WK S' wb pb db lb g.nodes.length g.players nv iv (T.map (·.1)) (T.map (·.2.1)) (T.map (·.2.2))

set_option maxHeartbeats 4000000 in
theorem walked_spec {S : St} {nv iv : AV} {g : PGame} (H : Has fns) (hn : IsSlG 6 NodeE S nv g.nodes) (hi : IsSlG 2 InfoE S iv g.infos) (hln : g.nodes.length ≤ 100000) :
    wpf fns (.fn 131 [] []) [.agg [.int .i64 g.players, nv, iv]] S fun r S' => Same S S' ∧ ∃ p, r = .tup [p, .int .i64 (formE g)] ∧ (formE g = 0 → Walked S S' p nv iv g) := by
  refine wpf_fn H.f131 (by simp) ?_
  simp only [↓sU, sD, reduceEqDiff, ↓reduceIte, reduceAdd]
  refine wsr ?_
  refine wpo_box (by simp only [↓sU, sD, reduceEqDiff, ↓reduceIte, reduceAdd]; exact cells_agg _) ?_
  intro S1 s1 n1 c1
  simp only [↓sU, sD, reduceEqDiff, ↓reduceIte, reduceAdd]
  have hnl := hn.len
  have hil := hi.len
  refine wpc_seq (wpc_seq (wpc_mono (Q := fun o A' X => o = .normal ∧ A'.inr = false ∧ X = S1 ∧ tmpV 1 A'.F = .ptr S.nx 0 ∧ tmpV 35 A'.F = .bool (decide (badG g))) (wpc_reg ?_) ?_))
  · by_cases h1 : g.players < 1
    · rw [decide_eq_true (show badG g from .inl h1)]
      simp only [↓sU, sD, reduceEqDiff, ↓reduceIte, reduceAdd, evQ_faddr, faddr_ptr, lg3_0 c1, lg3_1 c1, lg3_2 c1, hnl, hil, decide_eq_true h1]
    by_cases h2 : (4 : Int) < g.players
    · rw [decide_eq_true (show badG g from .inr (.inl h2))]
      simp only [↓sU, sD, reduceEqDiff, ↓reduceIte, reduceAdd, evQ_faddr, faddr_ptr, lg3_0 c1, lg3_1 c1, lg3_2 c1, hnl, hil, decide_eq_false h1, decide_eq_true h2]
    by_cases h3 : ((g.nodes.length : Nat) : Int) < 1
    · rw [decide_eq_true (show badG g from .inr (.inr (.inl h3)))]
      simp only [↓sU, sD, reduceEqDiff, ↓reduceIte, reduceAdd, evQ_faddr, faddr_ptr, lg3_0 c1, lg3_1 c1, lg3_2 c1, hnl, hil, decide_eq_false h1, decide_eq_false h2, decide_eq_true h3]
    by_cases h4 : (2000 : Int) < ((g.nodes.length : Nat) : Int)
    · rw [decide_eq_true (show badG g from .inr (.inr (.inr (.inl h4))))]
      simp only [↓sU, sD, reduceEqDiff, ↓reduceIte, reduceAdd, evQ_faddr, faddr_ptr, lg3_0 c1, lg3_1 c1, lg3_2 c1, hnl, hil, decide_eq_false h1, decide_eq_false h2, decide_eq_false h3, decide_eq_true h4]
    by_cases h5 : (200 : Int) < ((g.infos.length : Nat) : Int)
    · rw [decide_eq_true (show badG g from .inr (.inr (.inr (.inr h5))))]
      simp only [↓sU, sD, reduceEqDiff, ↓reduceIte, reduceAdd, evQ_faddr, faddr_ptr, lg3_0 c1, lg3_1 c1, lg3_2 c1, hnl, hil, decide_eq_false h1, decide_eq_false h2, decide_eq_false h3, decide_eq_false h4, decide_eq_true h5]
    · rw [decide_eq_false (show ¬ badG g by unfold badG; omega)]
      simp only [↓sU, sD, reduceEqDiff, ↓reduceIte, reduceAdd, evQ_faddr, faddr_ptr, lg3_0 c1, lg3_1 c1, lg3_2 c1, hnl, hil, decide_eq_false h1, decide_eq_false h2, decide_eq_false h3, decide_eq_false h4, decide_eq_false h5]
  rintro o ⟨F, inr⟩ X ⟨rfl, q0, hX, p1, pb⟩
  simp only at q0 p1 pb
  subst q0
  rw [hX]
  clear hX
  try simp only [↓sU, sD, reduceEqDiff, ↓reduceIte, reduceAdd]
  by_cases bad : badG g
  · have hE : formE g = 2 := by unfold formE; rw [if_pos bad]
    rw [hE]
    refine wpc_yes (by simp only [↓sU, sD, reduceEqDiff, ↓reduceIte, reduceAdd, pb, decide_eq_true bad]) ?_
    refine wsr ?_
    simp only [↓sU, sD, reduceEqDiff, ↓reduceIte, reduceAdd]
    refine wpc_ret ?_
    simp only [↓sU, sD, reduceEqDiff, ↓reduceIte, reduceAdd]
    exact ⟨s1, _, rfl, fun h => by cases h⟩
  refine wpc_non (by simp only [↓sU, sD, reduceEqDiff, ↓reduceIte, reduceAdd, pb, decide_eq_false bad]) (wpc_skip ?_)
  try simp only [↓sU, sD, reduceEqDiff, ↓reduceIte, reduceAdd]
  have hps : 1 ≤ g.players ∧ g.players ≤ 4 := by unfold badG at bad; omega
  have hN : g.nodes.length ≤ 2000 := by unfold badG at bad; omega
  have hN0 : 0 < g.nodes.length := by unfold badG at bad; omega
  have hI : g.infos.length ≤ 200 := by unfold badG at bad; omega
  -- the walker
  have hbd : ∀ (F : Fr) (h : T AB), tmpV 36 F = .agg [.int .i64 g.players, nv, iv] → evQ (.build [.int .i64 0, .nilsl, .nilsl, .nilsl, .nilsl, .nilsl] [(0, 3, .t 36)]) F h = some (.agg [.int .i64 g.players, nv, iv, .nilsl, .nilsl, .nilsl]) := fun F h he => by
    show (osel (fillP _ (partsV F [(0, 3, .t 36)])) fun cs => some (AV.agg cs)) = _
    simp only [partsV, show (Opd.t 36).val F = .agg [.int .i64 g.players, nv, iv] from he]
    rfl
  refine wsr ?_
  simp only [↓stU, stD, reduceEqDiff, ↓reduceIte, reduceAdd, p1, lg3_a c1, hbd]
  refine wpo_box (by simp only [↓stU, stD, reduceEqDiff, ↓reduceIte]; exact cells_agg _) ?_
  intro S2 s2 n2 c2
  simp only [↓sU, sD, reduceEqDiff, ↓reduceIte, reduceAdd]
  have sS2 : Same S S2 := s1.trans s2
  have hW : WalkB S2 S1.nx g.players nv iv .nilsl .nilsl .nilsl := ⟨c2, by omega⟩
  have hn2 := IsSlG.same (E := NodeE) firm_node hn sS2
  have gl2 : S.nx < S2.nx := by omega
  have c1' : S2.h.get S.nx = some (.cells [.int .i64 g.players, nv, iv] false 0) := by rw [s2.2 _ (by omega)]; exact c1
  refine wpc_seq (wpc_mono (Q := fun o A' X => (o = .normal ∧ WokI S2 S.nx S1.nx nv g 0 A' X) ∨ (o = .ret ∧ Same S2 X ∧ nodesE g.players g.infos.length g.nodes ≠ 0 ∧ tmpV 2 A'.F = .nilp ∧ tmpV 3 A'.F = .int .i64 (nodesE g.players g.infos.length g.nodes))) (wpc_seq (wpc_reg ?_)) ?_)
  · simp only [↓sU, sD, reduceEqDiff, ↓reduceIte, reduceAdd, p1, evQ_faddr, faddr_ptr, lg3_1 c1', hnl]
    refine wpc_block (wpc_loop (WokI S2 S.nx S1.nx nv g) ?_ g.nodes.length _ _ ⟨rfl, Same.refl _, 0, by omega, by rw [List.drop_zero], by simp only [↓sU, sD, reduceEqDiff, ↓reduceIte, reduceAdd, p1], by simp only [↓sU, sD, reduceEqDiff, ↓reduceIte, reduceAdd], by simp only [↓sU, sD, reduceEqDiff, ↓reduceIte, reduceAdd], by simp only [↓sU, sD, reduceEqDiff, ↓reduceIte, reduceAdd], by simp only [↓sU, sD, reduceEqDiff, ↓reduceIte, reduceAdd]⟩)
    clear p1 pb
    rintro k ⟨F, inr⟩ X ⟨q0, hX, i, hik, hE, p1, p4, p40, p41, p42⟩
    simp only at q0 p1 p4 p40 p41 p42
    subst q0
    refine wsr ?_
    simp only [↓sU, sD, reduceEqDiff, ↓reduceIte, reduceAdd, p41, p42]
    by_cases hlt : i < g.nodes.length
    · refine wpc_seq (wpc_yes (by simp only [↓sU, sD, reduceEqDiff, ↓reduceIte, reduceAdd, decide_eq_true (show (i : Int) < ((g.nodes.length : Nat) : Int) by omega)]) (wpc_skip ?_))
      simp only [↓sU, sD, reduceEqDiff, ↓reduceIte, reduceAdd]
      obtain ⟨x, hx⟩ : ∃ x, g.nodes[i]? = some x := ⟨_, List.getElem?_eq_getElem hlt⟩
      obtain ⟨e, b, q, hia, hb, he, hNE, hag, _⟩ := IsSlG.at (IsSlG.same (E := NodeE) firm_node hn2 hX) (by decide) hx
      have hdrop : g.nodes.drop i = x :: g.nodes.drop (i + 1) := by
        rw [List.drop_eq_getElem_cons hlt]
        congr 1
        rw [List.getElem?_eq_getElem hlt] at hx
        exact Option.some.inj hx
      have w1 : IntKind.i64.wrap ((i : Int) + 1) = ((i + 1 : Nat) : Int) := by rw [wrap_i64 (by omega) (by omega)]; omega
      refine wpc_seq (wpc_block (wpc_seq (wpc_reg ?_)))
      simp only [↓stU, stD, reduceEqDiff, ↓reduceIte, reduceAdd, p40, p42, natOf_cast, hia, hag]
      refine wpo_alloc ?_
      intro X1 x1 m1 d1
      refine wpo_st (b := X.nx) (by simp only [↓stU, stD, reduceEqDiff, ↓reduceIte, reduceAdd]) (by simp only [↓stU, stD, reduceEqDiff, ↓reduceIte, reduceAdd]; exact cells_agg _) d1 rfl he ?_
      intro X2 x2 m2 d2
      simp only [↓stU, stD, reduceEqDiff, ↓reduceIte, reduceAdd]
      have hX2 : Same X X2 := x2.same x1 (Nat.le_refl _)
      refine wsr ?_
      simp only [↓sU, sD, reduceEqDiff, ↓reduceIte, reduceAdd, p4, ldall d2 he]
      refine wpo_call ?_
      simp only [↓sU, sD, reduceEqDiff, ↓reduceIte, reduceAdd]
      refine wpf_mono (node_spec H (firm_node hNE hX2) (hW.same (hX.trans hX2)) hps hil (by omega) (IsSlG.self hi)) ?_
      rintro _ Y ⟨rfl, hY⟩
      have hSY := (hX.trans hX2).trans hY
      rw [hdrop] at hE
      simp only [nodesE] at hE
      try simp only [↓sU, sD, reduceEqDiff, ↓reduceIte, reduceAdd]
      refine wsr ?_
      simp only [↓sU, sD, reduceEqDiff, ↓reduceIte, reduceAdd]
      by_cases he0 : nodeE g.players g.infos.length x = 0
      · rw [if_neg (fun h => h he0)] at hE
        refine wpc_non (by simp only [↓sU, sD, reduceEqDiff, ↓reduceIte, reduceAdd, decide_eq_false (show ¬ nodeE g.players g.infos.length x ≠ 0 from fun h => h he0)]) (wpc_skip ?_)
        try simp only [↓sU, sD, reduceEqDiff, ↓reduceIte, reduceAdd]
        refine wpc_reg ?_
        simp only [↓sU, sD, reduceEqDiff, ↓reduceIte, reduceAdd, p42, w1]
        exact ⟨k - 1, by omega, rfl, hSY, i + 1, by omega, hE, by simp only [↓sU, sD, reduceEqDiff, ↓reduceIte, reduceAdd, p1], by simp only [↓sU, sD, reduceEqDiff, ↓reduceIte, reduceAdd, p4], by simp only [↓sU, sD, reduceEqDiff, ↓reduceIte, reduceAdd, p40], by simp only [↓sU, sD, reduceEqDiff, ↓reduceIte, reduceAdd, p41], by simp only [↓sU, sD, reduceEqDiff, ↓reduceIte, reduceAdd]⟩
      · rw [if_pos he0] at hE
        refine wpc_yes (by simp only [↓sU, sD, reduceEqDiff, ↓reduceIte, reduceAdd, decide_eq_true (show nodeE g.players g.infos.length x ≠ 0 from he0)]) ?_
        refine wsr ?_
        simp only [↓sU, sD, reduceEqDiff, ↓reduceIte, reduceAdd]
        refine wpc_ret ?_
        simp only [↓sU, sD, reduceEqDiff, ↓reduceIte, reduceAdd]
        exact .inr ⟨hSY, by rw [hE]; exact he0, by rw [hE]⟩
    · refine wpc_seq (wpc_non (by simp only [↓sU, sD, reduceEqDiff, ↓reduceIte, reduceAdd, decide_eq_false (show ¬ (i : Int) < ((g.nodes.length : Nat) : Int) by omega)]) (wpc_exit ?_))
      simp only [↓sU, sD, reduceEqDiff, ↓reduceIte, reduceAdd]
      have hk0 : k = 0 := by omega
      subst hk0
      exact .inl ⟨rfl, hX, i, hik, hE, by simp only [↓sU, sD, reduceEqDiff, ↓reduceIte, reduceAdd, p1], by simp only [↓sU, sD, reduceEqDiff, ↓reduceIte, reduceAdd, p4], by simp only [↓sU, sD, reduceEqDiff, ↓reduceIte, reduceAdd, p40], by simp only [↓sU, sD, reduceEqDiff, ↓reduceIte, reduceAdd, p41], by simp only [↓sU, sD, reduceEqDiff, ↓reduceIte, reduceAdd, p42]⟩
  clear p1 pb
  rintro o ⟨F, inr⟩ X (⟨rfl, q0, hX, i, hik, hE, p1, p4, p40, p41, p42⟩ | ⟨rfl, hX, hne, p2, p3⟩)
  rotate_left
  · simp only at p2 p3
    simp only [↓sU, sD, reduceEqDiff, ↓reduceIte, reduceAdd, p2, p3]
    have hE : formE g = nodesE g.players g.infos.length g.nodes := by unfold formE; rw [if_neg bad, if_pos hne]
    rw [hE]
    exact ⟨sS2.trans hX, _, rfl, fun h => absurd h hne⟩
  simp only at q0 p1 p4
  subst q0
  rw [List.drop_of_length_le (by omega)] at hE
  have hform : formE g = match walkG g with | none => 9 | some T => if T.length ≠ g.nodes.length then 9 else if 40 < maxD 0 T then 5 else setsE g := by
    conv => lhs; unfold formE
    rw [if_neg bad, if_neg (fun h => h hE)]
    first | done | (cases walkG g <;> rfl)
  -- the rows
  have sX := sS2.trans hX
  have cX : X.h.get S.nx = some (.cells [.int .i64 g.players, nv, iv] false 0) := by rw [hX.2 _ gl2]; exact c1'
  have wX := (hW.same hX).1
  have ltw := (hW.same hX).2
  have ltg : S.nx < X.nx := Nat.lt_of_lt_of_le gl2 hX.1
  have nwg : ¬ S.nx = S1.nx := by omega
  try simp only [↓sU, sD, reduceEqDiff, ↓reduceIte, reduceAdd]
  refine wpc_seq (wpc_drd2 (fun b => b = S1.nx) ?_)
  intro X1 x1 hx1 hm1
  simp only [↓sU, sD, reduceEqDiff, ↓reduceIte, reduceAdd, p1, p4, evQ_faddr, isLoad_faddr, faddr_ptr, lg3_1 cX, ltg, nwg, not_false_eq_true, hnl, IsSlG.self hn]
  refine contA_mk (n := g.nodes.length) (by simp only [↓sU, sD, reduceEqDiff, ↓reduceIte, reduceAdd, natOf_cast]) (by simp only [↓sU, sD, reduceEqDiff, ↓reduceIte, reduceAdd, natOf_cast]) (by unfold room; omega) (by unfold room; omega) ?_
  simp only [↓sU, sD, reduceEqDiff, ↓reduceIte, reduceAdd, p1, p4, evQ_faddr, isLoad_faddr, faddr_ptr, lg3_1 cX, ltg, nwg, not_false_eq_true, hnl, IsSlG.self hn]
  refine contA_mk (n := g.nodes.length) (by simp only [↓sU, sD, reduceEqDiff, ↓reduceIte, reduceAdd, natOf_cast]) (by simp only [↓sU, sD, reduceEqDiff, ↓reduceIte, reduceAdd, natOf_cast]) (by unfold room; omega) (by unfold room; omega) ?_
  simp only [↓sU, sD, reduceEqDiff, ↓reduceIte, reduceAdd, p1, p4, evQ_faddr, isLoad_faddr, faddr_ptr, lg3_1 cX, ltg, nwg, not_false_eq_true, hnl, IsSlG.self hn]
  refine contA_mk (n := g.nodes.length) (by simp only [↓sU, sD, reduceEqDiff, ↓reduceIte, reduceAdd, natOf_cast]) (by simp only [↓sU, sD, reduceEqDiff, ↓reduceIte, reduceAdd, natOf_cast]) (by unfold room; omega) (by unfold room; omega) ?_
  simp only [↓sU, sD, reduceEqDiff, ↓reduceIte, reduceAdd, p1, p4, evQ_nilchk, isLoad_nilchk, nilchk_ptr, evQ_faddr, isLoad_faddr, faddr_ptr]
  have hz : repeatL [AV.int .i64 0] g.nodes.length = cells64 (List.replicate g.nodes.length 0) := by rw [repeatL_one]; simp [cells64]
  rw [hz]
  have n6 : ¬ S1.nx = X.nx + 6 := by omega
  have n10 : ¬ S1.nx = X.nx + 10 := by omega
  have n14 : ¬ S1.nx = X.nx + 14 := by omega
  refine runD_stc (b := S1.nx) (p := 3) (w := .sl (X.nx + 6) 0 g.nodes.length g.nodes.length false) (cs := [.int .i64 g.players, nv, iv, .nilsl, .nilsl, .nilsl]) (o := false) (sz := 0) ((flush_skip (show Nat.testBit 98425 14 = false by decide)).trans (by rw [flush_skip (show Nat.testBit 98425 10 = false by decide), flush_on (show Nat.testBit 98425 6 = true by decide), flush_nil])) rfl (by simp only [↓sU, sD, reduceEqDiff, ↓reduceIte, reduceAdd]) (by simp only [↓sU, sD, reduceEqDiff, ↓reduceIte, reduceAdd]; rfl) (by rw [T.get_set, if_neg n6, hx1]; exact wX) (by simp) rfl ?_
  simp only [↓sU, sD, reduceEqDiff, ↓reduceIte, reduceAdd, p1, p4, evQ_nilchk, isLoad_nilchk, nilchk_ptr, evQ_faddr, isLoad_faddr, faddr_ptr]
  refine runD_stc (b := S1.nx) (p := 4) (w := .sl (X.nx + 10) 0 g.nodes.length g.nodes.length false) (cs := [.int .i64 g.players, nv, iv, .sl (X.nx + 6) 0 g.nodes.length g.nodes.length false, .nilsl, .nilsl]) (o := false) (sz := 0) ((flush_skip (show Nat.testBit 1017851 14 = false by decide)).trans (by rw [flush_on (show Nat.testBit 1017851 10 = true by decide), flush_nil])) rfl (by simp only [↓sU, sD, reduceEqDiff, ↓reduceIte, reduceAdd]) (by simp only [↓sU, sD, reduceEqDiff, ↓reduceIte, reduceAdd]; rfl) (by rw [T.get_set, if_neg n10, T.get_set, if_pos rfl]; rfl) (by simp) rfl ?_
  simp only [↓sU, sD, reduceEqDiff, ↓reduceIte, reduceAdd, p1, p4, evQ_nilchk, isLoad_nilchk, nilchk_ptr, evQ_faddr, isLoad_faddr, faddr_ptr]
  refine runD_stc (b := S1.nx) (p := 5) (w := .sl (X.nx + 14) 0 g.nodes.length g.nodes.length false) (cs := [.int .i64 g.players, nv, iv, .sl (X.nx + 6) 0 g.nodes.length g.nodes.length false, .sl (X.nx + 10) 0 g.nodes.length g.nodes.length false, .nilsl]) (o := false) (sz := 0) ((flush_on (show Nat.testBit 8388607 14 = true by decide)).trans (flush_nil _ _)) rfl (by simp only [↓sU, sD, reduceEqDiff, ↓reduceIte, reduceAdd]) (by simp only [↓sU, sD, reduceEqDiff, ↓reduceIte, reduceAdd]; rfl) (by rw [T.get_set, if_neg n14, T.get_set, if_pos rfl]; rfl) (by simp) rfl ?_
  simp only [↓sU, sD, reduceEqDiff, ↓reduceIte, reduceAdd]
  refine six_gen (P := fun h' => wpc fns _ _ ⟨h', X1.nx⟩ _) n6 n10 n14 (by omega) (by omega) (by omega) ?_
  intro Zh gw g1 g2 g3 gr
  have hm1 : X1.nx = X.nx + 24 := hm1
  have sZ : Same S ⟨Zh, X1.nx⟩ := ⟨by show S.nx ≤ X1.nx; have := sX.1; omega, fun c hc => by
    have := sX.1
    show Zh.get c = S.h.get c
    rw [gr c (by omega) (by omega) (by omega) (by omega), hx1]
    exact sX.2 c hc⟩
  have cZ : Zh.get S.nx = some (.cells [.int .i64 g.players, nv, iv] false 0) := by
    rw [gr _ (by omega) (by omega) (by omega) (by omega), hx1]
    exact cX
  have hK : WK ⟨Zh, X1.nx⟩ S1.nx (X.nx + 6) (X.nx + 10) (X.nx + 14) g.nodes.length g.players nv iv (List.replicate g.nodes.length 0) (List.replicate g.nodes.length 0) (List.replicate g.nodes.length 0) := ⟨⟨gw, by show S1.nx < X1.nx; omega⟩, g1, g2, g3, List.length_replicate .., List.length_replicate .., List.length_replicate .., by show _ < X1.nx; omega, by show _ < X1.nx; omega, by show _ < X1.nx; omega⟩
  generalize hZ : (⟨Zh, X1.nx⟩ : St) = Z at *
  have cZ : Z.h.get S.nx = some (.cells [.int .i64 g.players, nv, iv] false 0) := by rw [← hZ]; exact cZ
  have lz : S1.nx < Z.nx := hK.w.2
  have hall := nodesE_all hE
  -- the walk
  refine wss ?_
  simp only [↓sU, sD, reduceEqDiff, ↓reduceIte, reduceAdd, p1, p4, evQ_faddr, faddr_ptr, lg3_1 cZ]
  refine wpo_call ?_
  simp only [↓sU, sD, reduceEqDiff, ↓reduceIte, reduceAdd]
  rw [show Int.negSucc 0 = (-1 : Int) from rfl]
  refine wpf_mono (walk_spec (rv := nv) H hn (by omega) (by have := sX.1; omega) (by have := sX.1; omega) (by have := sX.1; omega) (by omega) (by omega) (by omega) n6 n10 n14 hN (fun x hx => node_next (hall x hx)) (g.nodes.length + 1) (at_ := 0) (p := -1) (d := 0) (by omega) (by decide) (by decide) (by omega) sZ hK (by rw [List.drop_zero]; exact hn)) ?_
  rintro r Y ⟨hY, P', D', L', hKY, hres⟩
  have sY : Same S Y := hY.same sZ (by have := sX.1; omega) (by have := sX.1; omega) (by have := sX.1; omega)
  have hres' : match walkG g with | some T => (∃ v, r = .tup [v, .bool true] ∧ IsSlG 6 NodeE S v (g.nodes.drop (0 + T.length))) ∧ RowOf (·.1) (List.replicate g.nodes.length 0) P' T 0 ∧ RowOf (·.2.1) (List.replicate g.nodes.length 0) D' T 0 ∧ RowOf (·.2.2) (List.replicate g.nodes.length 0) L' T 0 | none => r = .tup [.nilsl, .bool false] := hres
  clear hres
  cases hw : walkG g with
  | none =>
    rw [hw] at hres' hform
    subst hres'
    simp only at hform
    rw [hform]
    simp only [↓sU, sD, reduceEqDiff, ↓reduceIte, reduceAdd, ex0, ex1]
    refine wsr ?_
    simp only [↓sU, sD, reduceEqDiff, ↓reduceIte, reduceAdd, un_not, Bool.not_false]
    refine wpc_yes (by simp only [↓sU, sD, reduceEqDiff, ↓reduceIte, reduceAdd]) ?_
    refine wsr ?_
    simp only [↓sU, sD, reduceEqDiff, ↓reduceIte, reduceAdd]
    refine wpc_ret ?_
    simp only [↓sU, sD, reduceEqDiff, ↓reduceIte, reduceAdd]
    exact ⟨sY, _, rfl, fun h => by cases h⟩
  | some T =>
    rw [hw] at hres' hform
    obtain ⟨⟨v, rfl, hv⟩, rP, rD, rL⟩ := hres'
    simp only at hform
    have hTl := (walkL_len (show walkL g.nodes.length (nextOf g) (g.nodes.length + 1) 0 (-1) 0 = some T from hw)).1
    have hvl := hv.len
    rw [List.length_drop] at hvl
    simp only [↓sU, sD, reduceEqDiff, ↓reduceIte, reduceAdd, ex0, ex1]
    refine wsr ?_
    simp only [↓sU, sD, reduceEqDiff, ↓reduceIte, reduceAdd, un_not, Bool.not_true, hvl]
    by_cases hT : T.length = g.nodes.length
    rotate_left
    · rw [hform, if_pos hT]
      refine wpc_yes (by simp only [↓sU, sD, reduceEqDiff, ↓reduceIte, reduceAdd, decide_eq_true (show (0 : Int) < ((g.nodes.length - (0 + T.length) : Nat) : Int) by omega)]) ?_
      refine wsr ?_
      simp only [↓sU, sD, reduceEqDiff, ↓reduceIte, reduceAdd]
      refine wpc_ret ?_
      simp only [↓sU, sD, reduceEqDiff, ↓reduceIte, reduceAdd]
      exact ⟨sY, _, rfl, fun h => by cases h⟩
    rw [if_neg (fun h => h hT)] at hform
    refine wpc_non (by simp only [↓sU, sD, reduceEqDiff, ↓reduceIte, reduceAdd, decide_eq_false (show ¬ (0 : Int) < ((g.nodes.length - (0 + T.length) : Nat) : Int) by omega)]) (wpc_skip ?_)
    try simp only [↓sU, sD, reduceEqDiff, ↓reduceIte, reduceAdd]
    have eP := rP.full (by rw [List.length_replicate]; exact hT)
    have eD := rD.full (by rw [List.length_replicate]; exact hT)
    have eL := rL.full (by rw [List.length_replicate]; exact hT)
    subst eP eD eL
    -- the depth
    have hrow := row_sl hKY.gd hKY.bd hKY.ld
    obtain ⟨e, L, hTe⟩ := walkG_head hw
    have hmax : maxI ((T.map (·.2.1)).getD 0 0) ((T.map (·.2.1)).drop 1) = maxD 0 T := by
      rw [hTe]
      show maxI 0 (L.map (·.2.1)) = maxD 0 ((-1, 0, e) :: L)
      rw [maxI_map, maxD_cons]
      rfl
    refine wss ?_
    simp only [↓sU, sD, reduceEqDiff, ↓reduceIte, reduceAdd, p1, p4, evQ_nilchk, nilchk_ptr, evQ_faddr, faddr_ptr, ld6_4 hKY.w.1]
    refine wpo_call ?_
    simp only [↓sU, sD, reduceEqDiff, ↓reduceIte, reduceAdd]
    refine wpf_mono (max_spec H hrow (by rw [List.length_map]; omega) (by rw [List.length_map]; omega)) ?_
    rintro _ Y2 ⟨rfl, hY2⟩
    rw [hY2, hmax]
    simp only [↓sU, sD, reduceEqDiff, ↓reduceIte, reduceAdd]
    by_cases h40 : 40 < maxD 0 T
    · rw [hform, if_pos h40]
      refine wpc_yes (by simp only [↓sU, sD, reduceEqDiff, ↓reduceIte, reduceAdd, decide_eq_true h40]) ?_
      refine wsr ?_
      simp only [↓sU, sD, reduceEqDiff, ↓reduceIte, reduceAdd]
      refine wpc_ret ?_
      simp only [↓sU, sD, reduceEqDiff, ↓reduceIte, reduceAdd]
      exact ⟨sY, _, rfl, fun h => by cases h⟩
    rw [if_neg h40] at hform
    refine wpc_non (by simp only [↓sU, sD, reduceEqDiff, ↓reduceIte, reduceAdd, decide_eq_false h40]) (wpc_skip ?_)
    try simp only [↓sU, sD, reduceEqDiff, ↓reduceIte, reduceAdd]
    -- the sets
    refine wsr ?_
    simp only [↓sU, sD, reduceEqDiff, ↓reduceIte, reduceAdd, p1, p4]
    refine wpo_call ?_
    simp only [↓sU, sD, reduceEqDiff, ↓reduceIte, reduceAdd]
    refine wpf_mono (sets_spec H hKY.w (IsSlG.same (E := NodeE) firm_node hn sY) (IsSlG.same (E := InfoE) firm_info hi sY) hN hI (fun x hx h2 => node_info (hall x hx) h2)) ?_
    rintro _ Y3 ⟨rfl, hY3⟩
    try simp only [↓sU, sD, reduceEqDiff, ↓reduceIte, reduceAdd, p4]
    refine wpc_ret ?_
    simp only [↓sU, sD, reduceEqDiff, ↓reduceIte, reduceAdd]
    rw [hform]
    refine ⟨sY.trans hY3, _, rfl, fun _ => ⟨S1.nx, _, _, _, T, rfl, by omega, hw, hT, ⟨hKY.w.same hY3, by rw [hY3.2 _ hKY.bp]; exact hKY.gp, by rw [hY3.2 _ hKY.bd]; exact hKY.gd, by rw [hY3.2 _ hKY.bl]; exact hKY.gl, hKY.lp, hKY.ld, hKY.ll, Nat.lt_of_lt_of_le hKY.bp hY3.1, Nat.lt_of_lt_of_le hKY.bd hY3.1, Nat.lt_of_lt_of_le hKY.bl hY3.1⟩⟩⟩
end Go.Ev.Gl

namespace Go.Ev.Gl
variable {fns : T AFn}

/-! ## Form and Parents -/
theorem form_spec {S : St} {nv iv : AV} {g : PGame} (H : Has fns) (hn : IsSlG 6 NodeE S nv g.nodes) (hi : IsSlG 2 InfoE S iv g.infos) (hln : g.nodes.length ≤ 100000) :
    wpf fns (.fn 87 [] []) [.agg [.int .i64 g.players, nv, iv]] S fun r S' => r = .int .i64 (formE g) ∧ Same S S' := by
  refine wpf_fn H.f87 (by simp) ?_
  simp only [↓sU, sD, reduceEqDiff, ↓reduceIte, reduceAdd]
  refine wsr ?_
  refine wpo_box (by simp only [↓sU, sD, reduceEqDiff, ↓reduceIte, reduceAdd]; exact cells_agg _) ?_
  intro S1 s1 n1 c1
  simp only [↓sU, sD, reduceEqDiff, ↓reduceIte, reduceAdd]
  refine wsr ?_
  simp only [↓sU, sD, reduceEqDiff, ↓reduceIte, reduceAdd, lg3_a c1]
  refine wpo_call ?_
  simp only [↓sU, sD, reduceEqDiff, ↓reduceIte, reduceAdd]
  refine wpf_mono (walked_spec H (IsSlG.same (E := NodeE) firm_node hn s1) (IsSlG.same (E := InfoE) firm_info hi s1) hln) ?_
  rintro _ X ⟨hX, p, rfl, _⟩
  simp only [↓sU, sD, reduceEqDiff, ↓reduceIte, reduceAdd, ex0, ex1]
  refine wsr ?_
  simp only [↓sU, sD, reduceEqDiff, ↓reduceIte, reduceAdd]
  refine wpc_ret ?_
  simp only [↓sU, sD, reduceEqDiff, ↓reduceIte, reduceAdd]
  exact s1.trans hX
end Go.Ev.Gl

namespace Go.Ev.Gl
variable {fns : T AFn}

/-! ## Many slices that grow -/
theorem src1 {S : St} {t : Nat} {x : AV} {o : Bool} {sz : Nat} (h : S.h.get t = some (.cells [x] o sz)) : srcCells (.sl t 0 1 1 false) S.h 1 1 = some [x] := by
  show osel (cellsAt S.h t) (fun cs => cut cs 0 (1 * 1)) = _
  unfold cellsAt
  rw [h]
  rfl
theorem GrW.push {bytes t : Nat} {S0 S : St} {v : AV} {l : List Int} {w : Int} (h : GrW 1 S0 S v l.length (cells64 l)) (hS : Same S0 S) (ht : S.h.get t = some (.cells [.int .i64 w] false 0)) (h1 : l.length + 1 ≤ room) (h2 : (l.length + 1) * bytes ≤ room) :
    ∃ v' S', appendV bytes 1 v (.sl t 0 1 1 false) S = some (v', S') ∧ GrW 1 S0 S' v' (l ++ [w]).length (cells64 (l ++ [w])) ∧ blkOf v' = some S.nx ∧ S'.nx = S.nx + 1 ∧ ∀ c, c < S.nx → blkOf v ≠ some c → S'.h.get c = S.h.get c := by
  have hs := src1 ht
  have e0 : cells64 (l ++ [w]) = cells64 l ++ [.int .i64 w] := by simp [cells64]
  have e1 : (l ++ [w]).length = l.length + 1 := by simp
  rw [e0, e1]
  generalize hn : l.length = n at *
  rcases h with ⟨rfl, rfl, h0⟩ | ⟨b, rfl, hb0, hb, hg, hc⟩
  · refine ⟨.sl S.nx 0 1 1 true, ⟨S.h.set S.nx (some (.cells [.int .i64 w] true 1)), S.nx + 1⟩, ?_, .inr ⟨S.nx, by rw [Nat.zero_add], hS.1, by simp, ?_, ?_⟩, rfl, rfl, fun c hc _ => (Same.alloc S _).2 c hc⟩
    · show (osel (some 1) fun j => osel (srcCells (.sl t 0 1 1 false) S.h 1 j) fun new => appV .nilsl bytes 1 j new S) = _
      rw [osel_some, hs, osel_some]
      show appNil bytes 1 1 [.int .i64 w] S = _
      unfold appNil
      rw [show Nat.beq 1 0 = false from rfl, bsel_false, Nat.ble_eq_true_of_le (by omega), bsel_true, Nat.ble_eq_true_of_le (by rw [Nat.zero_add] at h2; exact h2), bsel_true]
      rfl
    · simp only
      rw [T.get_set, if_pos rfl, h0]
      rfl
    · rw [h0]; rfl
  · refine ⟨.sl S.nx 0 (n + 1) (n + 1) true, ⟨(S.h.set b none).set S.nx (some (.cells (cells64 l ++ [.int .i64 w]) true 1)), S.nx + 1⟩, ?_, .inr ⟨S.nx, rfl, hS.1, by simp, ?_, by rw [List.length_append, hc, List.length_singleton, Nat.add_mul, Nat.one_mul]⟩, rfl, rfl, fun c hc hne => ?_⟩
    · show (osel (some 1) fun j => osel (srcCells (.sl t 0 1 1 false) S.h 1 j) fun new => appV (.sl b 0 n n true) bytes 1 j new S) = _
      rw [osel_some, hs, osel_some]
      show appSl bytes 1 b 0 n n true 1 [.int .i64 w] S = _
      unfold appSl
      have e2 : Nat.ble (n + 1) n = false := by rw [Bool.eq_false_iff]; intro h; have := Nat.le_of_ble_eq_true h; omega
      rw [e2, bsel_false, Nat.ble_eq_true_of_le h1, bsel_true, Nat.ble_eq_true_of_le h2, bsel_true, hg, osel_some]
      have e3 : cut (cells64 l) 0 (n * 1) = some (cells64 l) := by
        unfold cut
        rw [takeL_eq, dropL_eq, List.drop_zero, if_pos (by omega), List.take_of_length_le (by omega)]
      have e4 : Nat.beq (0 + n * 1) (lenL (cells64 l)) = true := by rw [lenL_eq, hc, Nat.beq_eq]; omega
      simp only [growB, e3, osel_some, bsel_true, e4, show Nat.beq 1 1 = true from rfl, grown, appL_eq]
    · simp only
      rw [T.get_set, if_pos rfl]
    · simp only
      have : c ≠ b := fun e => hne (by rw [e]; rfl)
      rw [T.get_set, if_neg (by omega), T.get_set, if_neg this]
theorem GrW.self {k n : Nat} {S0 S : St} {v : AV} {cs : List AV} (h : GrW k S0 S v n cs) : sameV v v = true := by
  rcases h with ⟨rfl, _⟩ | ⟨b, rfl, _⟩
  · rfl
  · exact same_sl ..
theorem GrW.cells {k n : Nat} {S0 S : St} {v : AV} {cs : List AV} (h : GrW k S0 S v n cs) : v.cells = some [v] := by
  rcases h with ⟨rfl, _⟩ | ⟨b, rfl, _⟩ <;> rfl
theorem ldrow {h : T AB} {b p : Nat} {cs : List AV} {x : AV} {o : Bool} {s : Nat} (hb : h.get b = some (.cells cs o s)) (hj : cs[p]? = some x) : qLdV (.ptr b p) false 1 h = some x := by
  have := ldc (j := p) hb hj
  rw [Nat.zero_add] at this
  exact this
end Go.Ev.Gl

namespace Go.Ev.Gl
variable {fns : T AFn}

/-! ## The reference's sets -/
/-- a slice as an element -/
def SlE (S : St) (cs : List AV) (l : List Int) : Prop := ∃ a, cs = [a] ∧ IsSl .i64 S a l
theorem firm_sl : Firm SlE := fun ⟨a, h, h1⟩ hs => ⟨a, h, h1.same hs⟩
theorem GrW.is {S0 S : St} {v : AV} {l : List Int} (h : GrW 1 S0 S v l.length (cells64 l)) : IsSl .i64 S v l := by
  rcases h with ⟨rfl, h0, _⟩ | ⟨b, rfl, h1, h2, h3, h4⟩
  · exact .inl ⟨List.length_eq_zero_iff.1 h0, .inl rfl⟩
  · refine .inr ⟨b, 0, l.length, true, cells64 l, rfl, Nat.le_refl _, h2, by unfold cellsAt; rw [h3]; rfl, fun i x hi => ?_⟩
    rw [Nat.zero_add]
    unfold cells64
    rw [List.getElem?_map, hi]
    rfl
theorem GrW.blk {k n c : Nat} {S0 S : St} {v : AV} {cs : List AV} (h : GrW k S0 S v n cs) (hc : blkOf v = some c) : S0.nx ≤ c ∧ c < S.nx ∧ S.h.get c = some (.cells cs true k) := by
  rcases h with ⟨rfl, _⟩ | ⟨b, rfl, h1, h2, h3, h4⟩
  · cases hc
  · cases hc; exact ⟨h1, h2, h3⟩
end Go.Ev.Gl

namespace Go.Ev.Gl
variable {fns : T AFn}

/-! ## The reference's Form -/
end Go.Ev.Gl

namespace Go.Ev.Gl
variable {fns : T AFn}

/-! ## The reference's Form, in whole -/
theorem firstsL_get {g : PGame} {j : Nat} (hj : j < g.infos.length) : (firstsL g).getD j 0 = ((firstN g.nodes 0 j : Nat) : Int) := by
  unfold firstsL
  rw [List.getD_eq_getElem?_getD, List.getElem?_map, List.getElem?_range hj]
  rfl
end Go.Ev.Gl
