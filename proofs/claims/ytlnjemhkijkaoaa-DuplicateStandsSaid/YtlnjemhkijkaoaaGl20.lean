/- Contracts (20): rational numbers, the statements' tools, the law. -/
import Derived.Test.YtlnjemhkijkaoaaGl19
open Nat (reduceEqDiff reduceAdd)
set_option maxHeartbeats 4000000
set_option linter.unusedSimpArgs false
set_option linter.unusedVariables false
namespace Go.Ev.Gl
open Go.Sort
variable {fns : T AFn}

/-! ## The reference's standing: pieces -/
theorem rk_take : ∀ (L : List (Int × Int × Int)) (i : Nat), (L.flatMap rkCs).take (i * 3) = (L.take i).flatMap rkCs
  | [], i => by simp
  | r :: L, 0 => by simp
  | r :: L, i + 1 => by
    have e : (rkCs r).length = 3 := rfl
    rw [List.flatMap_cons, show (i + 1) * 3 = (rkCs r).length + i * 3 by omega, List.take_length_add_append, rk_take L i, List.take_succ_cons, List.flatMap_cons]
theorem rk_drop : ∀ (L : List (Int × Int × Int)) (i : Nat), (L.flatMap rkCs).drop (i * 3) = (L.drop i).flatMap rkCs
  | [], i => by simp
  | r :: L, 0 => by simp
  | r :: L, i + 1 => by
    have e : (rkCs r).length = 3 := rfl
    rw [List.flatMap_cons, show (i + 1) * 3 = (rkCs r).length + i * 3 by omega, ← List.drop_drop, List.drop_left, rk_drop L i, List.drop_succ_cons]
theorem slc_from {b n i k : Nat} {F : Fr} {x : Opd} (hx : natOf (x.val F) = some i) (h1 : i ≤ n) : slcV (.slice k) (.sl b 0 n n true) (some x) none none F = some (if i = n then .emp else .sl b (0 + i * k) (n - i) (n - i) true) := by
  have e1 : Nat.ble n n = true := Nat.ble_eq_true_of_le (Nat.le_refl _)
  have e2 : Nat.ble i n = true := Nat.ble_eq_true_of_le h1
  simp only [slcV, slSl, bounds, optNat, osel_some, hx, e1, e2, bsel_true, Option.isNone_none]
  by_cases h : i = n
  · rw [if_pos h, show Nat.beq n i = true by rw [Nat.beq_eq]; exact h.symm, bsel_true]
  · rw [if_neg h, show Nat.beq n i = false by rw [Bool.eq_false_iff]; intro h2; rw [Nat.beq_eq] at h2; exact h h2.symm, bsel_false]
theorem runD_copy {W : Nat → Prop} {h0 : Ev.T AB} {base i : Nat} {l : List AO} {F : Fr} {S : St} {last : Option Nat} {Q : Fr → St → List Pend → Prop} {d : Option Nat} {m size : Nat} {dd ss : Opd} {r : AV} {S1 : St} (h : inMask last m = true) (he : osel (lenOfS (ss.val F)) (fun k => copyV (dd.val F) size k (ss.val F) S) = some (r, S1)) (ho : OffW W base S S1) (hr : runD fns W h0 base l (i + 1) (putF d F r) S1 [] (some i) Q) : runD fns W h0 base (⟨d, .x (.copy size dd ss), none, m⟩ :: l) i F S [] last Q := by
  unfold runD; rw [if_pos (show wants none F = true from rfl)]; exact ⟨h, _, S1, fun call => he, ho, hr⟩
/-- the elements from p on go one place up -/
theorem shift_rk {X : St} {b p : Nat} {L : List (Int × Int × Int)} {z : Int × Int × Int} (hg : X.h.get b = some (.cells ((L ++ [z]).flatMap rkCs) true 3)) (hp : p ≤ L.length) :
    ∃ (r : AV) (X' : St) (M : List (Int × Int × Int)), osel (lenOfS (if p = L.length + 1 then .emp else .sl b (0 + p * 3) (L.length + 1 - p) (L.length + 1 - p) true)) (fun k => copyV (if p = L.length then .emp else .sl b (0 + (p + 1) * 3) (L.length + 1 - (p + 1)) (L.length + 1 - (p + 1)) true) 3 k (if p = L.length + 1 then .emp else .sl b (0 + p * 3) (L.length + 1 - p) (L.length + 1 - p) true) X) = some (r, X') ∧
      X'.nx = X.nx ∧ (∀ c, c ≠ b → X'.h.get c = X.h.get c) ∧ X'.h.get b = some (.cells (M.flatMap rkCs) true 3) ∧ M.length = L.length + 1 ∧ M.take p = L.take p ∧ M.drop (p + 1) = L.drop p := by
  rw [if_neg (show ¬ p = L.length + 1 by omega)]
  by_cases h : p = L.length
  · have hp' := h
    refine ⟨_, X, L ++ [z], by rw [if_pos h]; rfl, rfl, fun _ _ => rfl, hg, by simp, ?_, ?_⟩
    · rw [hp', List.take_left, List.take_length]
    · rw [hp', List.drop_length, List.drop_of_length_le (by simp)]
  rw [if_neg h]
  obtain ⟨n, hn⟩ : ∃ n, n = L.length := ⟨_, rfl⟩
  rw [← hn] at h hp ⊢
  have hfl : ((L ++ [z]).flatMap rkCs).length = (n + 1) * 3 := by rw [rk_flat_len]; simp [hn]
  have hcut : cut ((L ++ [z]).flatMap rkCs) (0 + p * 3) ((n - p) * 3) = some ((L.drop p).flatMap rkCs) := by
    unfold cut
    rw [takeL_eq, dropL_eq, if_pos (by rw [List.length_drop]; omega), Nat.zero_add, rk_drop, rk_take, List.drop_append_of_le_length (by omega), List.take_append_of_le_length (by rw [List.length_drop]; omega), List.take_of_length_le (by rw [List.length_drop]; omega)]
  have hdl : ((L.drop p).flatMap rkCs).length = (n - p) * 3 := by rw [rk_flat_len, List.length_drop]; omega
  have hput : put ((L ++ [z]).flatMap rkCs) (0 + (p + 1) * 3) ((L.drop p).flatMap rkCs) = some (((L ++ [z]).take (p + 1) ++ L.drop p).flatMap rkCs) := by
    have e3 : ((L ++ [z]).flatMap rkCs).drop ((p + 1) * 3 + ((L.drop p).flatMap rkCs).length) = [] := List.drop_of_length_le (by omega)
    rw [put_eq, if_pos (by omega), Nat.zero_add, e3, List.append_nil, rk_take]
    conv => rhs; rw [List.flatMap_append]
  refine ⟨.int .i64 (.ofNat (n - p)), ⟨X.h.set b (some (.cells (((L ++ [z]).take (p + 1) ++ L.drop p).flatMap rkCs) true 3)), X.nx⟩, (L ++ [z]).take (p + 1) ++ L.drop p, ?_, rfl, fun c hc => by simp only; rw [T.get_set, if_neg hc], by simp only; rw [T.get_set, if_pos rfl], by rw [List.length_append, List.length_take, List.length_drop]; simp; omega, ?_, ?_⟩
  · simp only [lenOfS, osel_some, copyV]
    have e1 : bsel (Nat.ble (n + 1 - p) (n + 1 - (p + 1))) (n + 1 - p) (n + 1 - (p + 1)) = n - p := by
      rw [show Nat.ble (n + 1 - p) (n + 1 - (p + 1)) = false by rw [Bool.eq_false_iff]; intro h; have := Nat.le_of_ble_eq_true h; omega, bsel_false]
      omega
    rw [e1, show Nat.beq (n - p) 0 = false by rw [Bool.eq_false_iff]; intro h; rw [Nat.beq_eq] at h; omega, bsel_false]
    have e2 : srcCells (.sl b (0 + p * 3) (n + 1 - p) (n + 1 - p) true) X.h 3 (n - p) = some ((L.drop p).flatMap rkCs) := by
      show osel (cellsAt X.h b) (fun cs => cut cs (0 + p * 3) ((n - p) * 3)) = _
      unfold cellsAt
      rw [hg]
      exact hcut
    rw [e2, osel_some]
    simp only [storeN, hg, osel_some, storeB, hput]
  · rw [List.take_append_of_le_length (by rw [List.length_take]; simp; omega), List.take_take, Nat.min_eq_left (by omega), List.take_append_of_le_length (by omega)]
  · rw [List.drop_append, List.drop_of_length_le (by rw [List.length_take]; simp; omega), List.nil_append, show p + 1 - ((L ++ [z]).take (p + 1)).length = 0 by rw [List.length_take]; simp; omega, List.drop_zero]
/-- and a rank is written there -/
theorem put_rk {X : St} {b p : Nat} {L M : List (Int × Int × Int)} {x : Int × Int × Int} (hg : X.h.get b = some (.cells (M.flatMap rkCs) true 3)) (hM : M.length = L.length + 1) (hp : p ≤ L.length) (h1 : M.take p = L.take p) (h2 : M.drop (p + 1) = L.drop p) :
    xStV (.ptr b (0 + p * 3)) 3 (rkCs x) X = some (.undef, ⟨X.h.set b (some (.cells ((L.take p ++ x :: L.drop p).flatMap rkCs) true 3)), X.nx⟩) := by
  have hfl : (M.flatMap rkCs).length = (L.length + 1) * 3 := by rw [rk_flat_len, hM]
  rw [xst_cut (n := 3) (e := rkCs x) (p := 0 + p * 3) hg (by show 0 + p * 3 + 3 ≤ _; omega) rfl]
  congr 3
  rw [Nat.zero_add, rk_take, show p * 3 + (rkCs x).length = (p + 1) * 3 by show p * 3 + 3 = _; omega, rk_drop, h1, h2, List.flatMap_append, List.flatMap_cons, List.append_assoc]
end Go.Ev.Gl

namespace Go.Ev.Gl
open Go.Sort
variable {fns : T AFn}

/-! ## The reference's standing -/
def XdsI (S : St) (v : AV) (rows : List (List Int)) (s : Int) (k : Nat) (A : Act') (X : St) : Prop := A.inr = false ∧ Same S X ∧ tmpV 0 A.F = v ∧ tmpV 1 A.F = .int .i64 s ∧ ∃ (i : Nat) (u : AV) (R : List (Int × Int × Int)), i + k = rows.length ∧ R.length = i ∧ R.Perm ((List.range i).map (rkAt rows s)) ∧ R.Pairwise rkLt ∧ (∀ i' j, i' < i → j < rows.length → ¬ badSt rows i' j) ∧ tmpV 7 A.F = u ∧ tmpV 8 A.F = .int .i64 (i : Int) ∧ GrW 3 S X u i (R.flatMap rkCs)
/-- while a row is summed -/
def XrS (S X2 : St) (v u : AV) (s : Int) (i rb : Nat) (A : Act') (Y : St) : Prop := A.inr = false ∧ tmpV 0 A.F = v ∧ tmpV 1 A.F = .int .i64 s ∧ tmpV 7 A.F = u ∧ tmpV 8 A.F = .int .i64 (i : Int) ∧ tmpV 9 A.F = .ptr rb 0 ∧ SameBut rb X2 Y
def XdrI (S X2 : St) (v u : AV) (rows : List (List Int)) (s : Int) (i rb : Nat) (k : Nat) (A : Act') (Y : St) : Prop := XrS S X2 v u s i rb A Y ∧ ∃ j : Nat, j + k = rows.length ∧ (∀ j', j' < j → ¬ badSt rows i j') ∧ tmpV 10 A.F = .int .i64 (j : Int) ∧ Y.h.get rb = some (.cells (rkCs ((i : Int), ((rows.getD i []).take j).sum, s * ((rows.length : Int) - 1))) false 0)
def XaI (S X2 : St) (v u : AV) (s : Int) (i rb : Nat) (R : List (Int × Int × Int)) (x : Int × Int × Int) (k : Nat) (A : Act') (Y : St) : Prop := XrS S X2 v u s i rb A Y ∧ k ≤ R.length ∧ tmpV 11 A.F = .int .i64 (k : Int) ∧ (∀ j r, k ≤ j → R[j]? = some r → r.2.1 < x.2.1) ∧ Y.h.get rb = some (.cells (rkCs x) false 0)
def XStndR (S : St) (rows : List (List Int)) (s : Int) (r : AV) (S' : St) : Prop := Same S S' ∧ ((stE rows s ≠ 0 ∧ r = .tup [.nilsl, .int .i64 (stE rows s)]) ∨ (stE rows s = 0 ∧ ∃ u L, r = .tup [u, .int .i64 0] ∧ IsSlG 3 RkE S' u L ∧ L.Perm (rks rows s) ∧ L.Pairwise rkLt))
set_option maxHeartbeats 8000000 in
theorem xstanding_spec {S : St} {v : AV} {rows : List (List Int)} {s : Int} (H : Has fns) (h : IsSlG 1 SlE S v rows) : wpf fns (.fn 6 [] []) [v, .int .i64 s] S fun r S' => XStndR S rows s r S' := by
  refine wpf_fn H.f6 (by simp) ?_
  simp only [↓stU, stD, reduceEqDiff, ↓reduceIte, reduceAdd]
  refine wsr ?_
  simp only [↓stU, stD, reduceEqDiff, ↓reduceIte, reduceAdd]
  refine wss ?_
  simp only [↓stU, stD, reduceEqDiff, ↓reduceIte, h.len]
  by_cases h20 : 20 < rows.length
  · refine wpc_yes (by simp only [↓stU, stD, reduceEqDiff, ↓reduceIte, decide_eq_true (show (20 : Int) < (rows.length : Int) by omega)]) (wpc_seq (wpc_reg ?_))
    simp only [↓stU, stD, reduceEqDiff, ↓reduceIte]
    refine wpc_ret ?_
    simp only [↓stU, stD, reduceEqDiff, ↓reduceIte]
    refine ⟨Same.refl _, .inl ?_⟩
    rw [stE_4 h20]
    exact ⟨by omega, rfl⟩
  refine wpc_non (by simp only [↓stU, stD, reduceEqDiff, ↓reduceIte, decide_eq_false (show ¬ (20 : Int) < (rows.length : Int) by omega)]) (wpc_skip ?_)
  try simp only [↓stU, stD, reduceEqDiff, ↓reduceIte]
  refine wpc_seq (wpc_mono (Q := fun o A' X => X = S ∧ (o = .ret ∧ stE rows s ≠ 0 ∧ tmpV 4 A'.F = .nilsl ∧ tmpV 5 A'.F = .int .i64 (stE rows s) ∨ o = .normal ∧ A'.inr = false ∧ Sq rows ∧ tmpV 0 A'.F = v ∧ tmpV 1 A'.F = .int .i64 s)) (wpc_seq (wpc_reg ?_)) ?_)
  · simp only [↓stU, stD, reduceEqDiff, ↓reduceIte]
    refine wpc_block (wpc_loop (fun k A' X => A'.inr = false ∧ X = S ∧ ∃ i : Nat, i + k = rows.length ∧ (∀ j, j < i → (rows.getD j []).length = rows.length) ∧ tmpV 0 A'.F = v ∧ tmpV 1 A'.F = .int .i64 s ∧ tmpV 6 A'.F = .int .i64 (i : Int)) ?_ rows.length _ _ ⟨rfl, rfl, 0, by omega, fun j hj => by omega, by simp only [↓stU, stD, reduceEqDiff, ↓reduceIte], by simp only [↓stU, stD, reduceEqDiff, ↓reduceIte], by simp only [↓stU, stD, reduceEqDiff, ↓reduceIte]⟩)
    rintro k ⟨F, inr⟩ X ⟨q0, rfl, i, hik, hq, p0, p1, p6⟩
    simp only at q0 p0 p1 p6
    subst q0
    refine wss ?_
    simp only [↓stU, stD, reduceEqDiff, ↓reduceIte, p0, p6, h.len, dlt]
    by_cases hi : i < rows.length
    · refine wpc_yes (by simp only [↓stU, stD, reduceEqDiff, ↓reduceIte, decide_eq_true hi]) (wpc_skip ?_)
      try simp only [↓stU, stD, reduceEqDiff, ↓reduceIte]
      obtain ⟨a, b, p, ia, lb, la, hr⟩ := rowS_at h hi
      have sa := IsSl.self hr
      refine wpc_seq (wpc_block (wpc_seq (wpc_reg ?_)))
      simp only [↓stU, stD, reduceEqDiff, ↓reduceIte, p0, p6, natOf_cast, ia, la, hr.len, h.len]
      by_cases hl : (rows.getD i []).length = rows.length
      · refine wpc_non (by simp only [↓stU, stD, reduceEqDiff, ↓reduceIte, decide_eq_false (show ¬ ((rows.getD i []).length : Int) ≠ (rows.length : Int) by omega)]) (wpc_skip ?_)
        try simp only [↓stU, stD, reduceEqDiff, ↓reduceIte]
        refine wpc_reg ?_
        simp only [↓stU, stD, reduceEqDiff, ↓reduceIte, p6, wadd1 (a := i) (by omega)]
        refine ⟨k - 1, by omega, i + 1, by omega, fun j hj => ?_, p0, p1, rfl⟩
        by_cases e : j = i
        · rw [e]; exact hl
        · exact hq j (by omega)
      · refine wpc_yes (by simp only [↓stU, stD, reduceEqDiff, ↓reduceIte, decide_eq_true (show ((rows.getD i []).length : Int) ≠ (rows.length : Int) by omega)]) (wpc_seq (wpc_reg ?_))
        simp only [↓stU, stD, reduceEqDiff, ↓reduceIte]
        refine wpc_ret ?_
        refine ⟨rfl, .inl ⟨rfl, ?_⟩⟩
        rw [stE_10 h20 hi hl]
        exact ⟨by omega, by simp only [↓stU, stD, reduceEqDiff, ↓reduceIte], by simp only [↓stU, stD, reduceEqDiff, ↓reduceIte]⟩
    · refine wpc_non (by simp only [↓stU, stD, reduceEqDiff, ↓reduceIte, decide_eq_false hi]) (wpc_exit ?_)
      exact ⟨rfl, .inr ⟨rfl, rfl, fun j hj => hq j (by omega), by simp only [↓stU, stD, reduceEqDiff, ↓reduceIte, p0], by simp only [↓stU, stD, reduceEqDiff, ↓reduceIte, p1]⟩⟩
  rintro o ⟨F, inr⟩ X ⟨rfl, ⟨rfl, hne, p4, p5⟩ | ⟨rfl, q0, hq, p0, p1⟩⟩
  · simp only at p4 p5
    simp only [↓stU, stD, reduceEqDiff, ↓reduceIte, p4, p5]
    exact ⟨Same.refl _, .inl ⟨hne, rfl⟩⟩
  simp only at q0 p0 p1
  subst q0
  try simp only [↓stU, stD, reduceEqDiff, ↓reduceIte]
  refine wpc_seq (wpc_mono (Q := fun o A' Y => Y = X ∧ (o = .ret ∧ stE rows s ≠ 0 ∧ tmpV 4 A'.F = .nilsl ∧ tmpV 5 A'.F = .int .i64 (stE rows s) ∨ o = .normal ∧ A'.inr = false ∧ ¬ (s < 0 ∨ 1000 < s) ∧ tmpV 0 A'.F = v ∧ tmpV 1 A'.F = .int .i64 s)) (wpc_seq (wpc_reg ?_)) ?_)
  · by_cases h1 : s < 0
    · simp only [↓stU, stD, reduceEqDiff, ↓reduceIte, p1, decide_eq_true h1]
      refine wpc_yes (by simp only [↓stU, stD, reduceEqDiff, ↓reduceIte]) (wpc_seq (wpc_reg ?_))
      simp only [↓stU, stD, reduceEqDiff, ↓reduceIte]
      refine wpc_ret ?_
      refine ⟨rfl, .inl ⟨rfl, ?_⟩⟩
      rw [stE_2 h20 hq (.inl h1)]
      exact ⟨by omega, by simp only [↓stU, stD, reduceEqDiff, ↓reduceIte], by simp only [↓stU, stD, reduceEqDiff, ↓reduceIte]⟩
    · by_cases h2 : 1000 < s
      · simp only [↓stU, stD, reduceEqDiff, ↓reduceIte, p1, decide_eq_false h1, decide_eq_true h2]
        refine wpc_yes (by simp only [↓stU, stD, reduceEqDiff, ↓reduceIte]) (wpc_seq (wpc_reg ?_))
        simp only [↓stU, stD, reduceEqDiff, ↓reduceIte]
        refine wpc_ret ?_
        refine ⟨rfl, .inl ⟨rfl, ?_⟩⟩
        rw [stE_2 h20 hq (.inr h2)]
        exact ⟨by omega, by simp only [↓stU, stD, reduceEqDiff, ↓reduceIte], by simp only [↓stU, stD, reduceEqDiff, ↓reduceIte]⟩
      · simp only [↓stU, stD, reduceEqDiff, ↓reduceIte, p1, decide_eq_false h1, decide_eq_false h2]
        refine wpc_non (by simp only [↓stU, stD, reduceEqDiff, ↓reduceIte]) (wpc_skip ?_)
        exact ⟨rfl, .inr ⟨rfl, rfl, by omega, by simp only [↓stU, stD, reduceEqDiff, ↓reduceIte, p0], by simp only [↓stU, stD, reduceEqDiff, ↓reduceIte, p1]⟩⟩
  clear p0 p1
  rintro o ⟨F, inr⟩ Y ⟨rfl, ⟨rfl, hne, p4, p5⟩ | ⟨rfl, q0, hs, p0, p1⟩⟩
  · simp only at p4 p5
    simp only [↓stU, stD, reduceEqDiff, ↓reduceIte, p4, p5]
    exact ⟨Same.refl _, .inl ⟨hne, rfl⟩⟩
  simp only at q0 p0 p1
  subst q0
  obtain ⟨S, rfl⟩ : ∃ S : St, S = Y := ⟨_, rfl⟩
  try simp only [↓stU, stD, reduceEqDiff, ↓reduceIte]
  refine wsr ?_
  simp only [↓stU, stD, reduceEqDiff, ↓reduceIte]
  -- the rows
  refine wpc_seq (wpc_mono (Q := fun o A' X => Same S X ∧ (o = .ret ∧ stE rows s ≠ 0 ∧ tmpV 4 A'.F = .nilsl ∧ tmpV 5 A'.F = .int .i64 (stE rows s) ∨ o = .normal ∧ (∀ i' j, i' < rows.length → j < rows.length → ¬ badSt rows i' j) ∧ ∃ (u : AV) (R : List (Int × Int × Int)), tmpV 7 A'.F = u ∧ R.length = rows.length ∧ R.Perm ((List.range rows.length).map (rkAt rows s)) ∧ R.Pairwise rkLt ∧ GrW 3 S X u rows.length (R.flatMap rkCs))) (wpc_seq (wpc_reg ?_)) ?_)
  · simp only [↓stU, stD, reduceEqDiff, ↓reduceIte]
    refine wpc_block (wpc_loop (XdsI S v rows s) ?_ rows.length _ _ ⟨rfl, Same.refl _, by simp only [↓stU, stD, reduceEqDiff, ↓reduceIte, p0], by simp only [↓stU, stD, reduceEqDiff, ↓reduceIte, p1], 0, .nilsl, [], by omega, rfl, List.Perm.refl _, List.Pairwise.nil, fun i' j hj => by omega, by simp only [↓stU, stD, reduceEqDiff, ↓reduceIte], by simp only [↓stU, stD, reduceEqDiff, ↓reduceIte], .inl ⟨rfl, rfl, rfl⟩⟩)
    clear p0 p1
    rintro k ⟨F, inr⟩ X ⟨q0, hX, p0, p1, i, u, R, hik, hRl, hRp, hRs, hg, p7, p8, gw⟩
    simp only at q0 p0 p1 p7 p8
    subst q0
    refine wss ?_
    simp only [↓stU, stD, reduceEqDiff, ↓reduceIte, p0, p8, h.len, dlt]
    by_cases hi : i < rows.length
    rotate_left
    · have e : i = rows.length := by omega
      subst e
      refine wpc_non (by simp only [↓stU, stD, reduceEqDiff, ↓reduceIte, decide_eq_false hi]) (wpc_exit ?_)
      exact ⟨hX, .inr ⟨rfl, hg, u, R, by simp only [↓stU, stD, reduceEqDiff, ↓reduceIte, p7], hRl, hRp, hRs, gw⟩⟩
    refine wpc_yes (by simp only [↓stU, stD, reduceEqDiff, ↓reduceIte, decide_eq_true hi]) (wpc_skip ?_)
    try simp only [↓stU, stD, reduceEqDiff, ↓reduceIte]
    have hXX := hX.1
    have hp1 : (0 : Int) ≤ s * ((rows.length : Int) - 1) := Int.mul_nonneg (by omega) (by omega)
    have hp2 : s * ((rows.length : Int) - 1) ≤ 1000 * 20 := Int.mul_le_mul (by omega) (by omega) (by omega) (by omega)
    refine wpc_seq (wpc_mono (Q := fun o A' W => Same S W ∧ (o = .ret ∧ stE rows s ≠ 0 ∧ tmpV 4 A'.F = .nilsl ∧ tmpV 5 A'.F = .int .i64 (stE rows s) ∨ o = .normal ∧ A'.inr = false ∧ tmpV 0 A'.F = v ∧ tmpV 1 A'.F = .int .i64 s ∧ tmpV 8 A'.F = .int .i64 (i : Int) ∧ (∀ j, j < rows.length → ¬ badSt rows i j) ∧ ∃ (u : AV) (R' : List (Int × Int × Int)), tmpV 7 A'.F = u ∧ R'.length = i + 1 ∧ R'.Perm ((List.range (i + 1)).map (rkAt rows s)) ∧ R'.Pairwise rkLt ∧ GrW 3 S W u (i + 1) (R'.flatMap rkCs))) (wpc_block (wpc_seq (wpc_reg ?_))) ?_)
    · simp only [↓stU, stD, reduceEqDiff, ↓reduceIte, p0, p1, p8, h.len, wrap_i64 (n := (rows.length : Int) - 1) (by omega) (by omega), wrap_i64 (n := s * ((rows.length : Int) - 1)) (by omega) (by omega), isLoad_build]
      rw [evQ_b02 (by simp only [↓stU, stD, reduceEqDiff, ↓reduceIte, cells_int]) (by simp only [↓stU, stD, reduceEqDiff, ↓reduceIte, cells_int])]
      simp only [↓stU, stD, reduceEqDiff, ↓reduceIte]
      refine wpo_alloc ?_
      intro X1 x1 n1 g1
      try simp only [↓stU, stD, reduceEqDiff, ↓reduceIte]
      have hst := xst_all (cs' := rkCs ((i : Int), 0, s * ((rows.length : Int) - 1))) g1 rfl rfl
      refine wpo_x (v := .undef) (fun call => by rw [evX_st]; simp only [↓stU, stD, reduceEqDiff, ↓reduceIte, cells_agg]; exact hst) ?_
      obtain ⟨X2, hX2⟩ : ∃ X2 : St, X2 = ⟨X1.h.set X.nx (some (.cells (rkCs ((i : Int), 0, s * ((rows.length : Int) - 1))) false 0)), X1.nx⟩ := ⟨_, rfl⟩
      rw [← hX2]
      have x2 : Same X X2 := by
        rw [hX2]
        refine ⟨by show X.nx ≤ X1.nx; omega, fun c hc => ?_⟩
        simp only
        rw [T.get_set, if_neg (by omega)]
        exact x1.2 c hc
      have g2 : X2.h.get X.nx = some (.cells (rkCs ((i : Int), 0, s * ((rows.length : Int) - 1))) false 0) := by
        rw [hX2]
        simp only
        rw [T.get_set, if_pos rfl]
      have n2 : X2.nx = X.nx + 1 := by rw [hX2]; exact n1
      clear hst hX2 g1 x1 n1
      have hrl := hq i hi
      try simp only [↓stU, stD, reduceEqDiff, ↓reduceIte]
      -- the sum
      refine wpc_seq (wpc_mono (Q := fun o A' Y => Same S Y ∧ (o = .ret ∧ stE rows s ≠ 0 ∧ tmpV 4 A'.F = .nilsl ∧ tmpV 5 A'.F = .int .i64 (stE rows s) ∨ o = .normal ∧ (∀ j, j < rows.length → ¬ badSt rows i j) ∧ XrS S X2 v u s i X.nx A' Y ∧ Y.h.get X.nx = some (.cells (rkCs (rkAt rows s i)) false 0))) (wpc_seq (wpc_reg ?_)) ?_)
      · simp only [↓stU, stD, reduceEqDiff, ↓reduceIte]
        refine wpc_block (wpc_loop (XdrI S X2 v u rows s i X.nx) ?_ rows.length _ _ ⟨⟨rfl, by simp only [↓stU, stD, reduceEqDiff, ↓reduceIte, p0], by simp only [↓stU, stD, reduceEqDiff, ↓reduceIte, p1], by simp only [↓stU, stD, reduceEqDiff, ↓reduceIte, p7], by simp only [↓stU, stD, reduceEqDiff, ↓reduceIte, p8], by simp only [↓stU, stD, reduceEqDiff, ↓reduceIte], SameBut.refl _ _⟩, 0, by omega, fun j hj => by omega, by simp only [↓stU, stD, reduceEqDiff, ↓reduceIte], g2⟩)
        clear p0 p1 p7 p8
        rintro m ⟨F, inr⟩ Y ⟨⟨q0, p0, p1, p7, p8, p9, hY⟩, j, hjm, hgj, p10, gY⟩
        simp only at q0 p0 p1 p7 p8 p9 p10
        subst q0
        have sY : Same S Y := SameBut.same (hX.trans x2) hY hXX
        refine wss ?_
        simp only [↓stU, stD, reduceEqDiff, ↓reduceIte, p0, p10, h.len, dlt]
        by_cases hj : j < rows.length
        rotate_left
        · refine wpc_non (by simp only [↓stU, stD, reduceEqDiff, ↓reduceIte, decide_eq_false hj]) (wpc_exit ?_)
          rw [List.take_of_length_le (by omega)] at gY
          exact ⟨sY, .inr ⟨rfl, fun j' hj' => hgj j' (by omega), ⟨rfl, by simp only [↓stU, stD, reduceEqDiff, ↓reduceIte, p0], by simp only [↓stU, stD, reduceEqDiff, ↓reduceIte, p1], by simp only [↓stU, stD, reduceEqDiff, ↓reduceIte, p7], by simp only [↓stU, stD, reduceEqDiff, ↓reduceIte, p8], by simp only [↓stU, stD, reduceEqDiff, ↓reduceIte, p9], hY⟩, gY⟩⟩
        refine wpc_yes (by simp only [↓stU, stD, reduceEqDiff, ↓reduceIte, decide_eq_true hj]) (wpc_skip ?_)
        try simp only [↓stU, stD, reduceEqDiff, ↓reduceIte]
        obtain ⟨a, b, p, ia, lb, la, hr⟩ := rowS_at (IsSlG.same (E := SlE) firm_sl h sY) hi
        have sa := IsSl.self hr
        have hjr : j < (rows.getD i []).length := by omega
        have ja := hr.iaddr hjr
        have jl := hr.ld hjr
        obtain ⟨w, hw⟩ : ∃ w, w = (rows.getD i []).getD j 0 := ⟨_, rfl⟩
        rw [← hw] at jl
        have bad : badSt rows i j ↔ w < -2000000000 ∨ 2000000000 < w ∨ i = j ∧ w ≠ 0 := by unfold badSt; rw [← hw]
        refine wpc_seq (wpc_mono (Q := fun o A' Z => Same S Z ∧ (o = .ret ∧ badSt rows i j ∧ tmpV 4 A'.F = .nilsl ∧ tmpV 5 A'.F = .int .i64 2 ∨ o = .normal ∧ ¬ badSt rows i j ∧ XrS S X2 v u s i X.nx A' Z ∧ tmpV 10 A'.F = .int .i64 (j : Int) ∧ Z.h.get X.nx = some (.cells (rkCs ((i : Int), ((rows.getD i []).take (j + 1)).sum, s * ((rows.length : Int) - 1))) false 0))) (wpc_block (wpc_seq (wpc_mono (Q := fun o A' Z => Z = Y ∧ (o = .ret ∧ badSt rows i j ∧ tmpV 4 A'.F = .nilsl ∧ tmpV 5 A'.F = .int .i64 2 ∨ o = .normal ∧ ¬ badSt rows i j ∧ XrS S X2 v u s i X.nx A' Z ∧ tmpV 10 A'.F = .int .i64 (j : Int))) (wpc_seq (wpc_reg ?_)) ?_))) ?_)
        · have fin : ∀ (F' : Fr) (t : Bool), (t = true ↔ badSt rows i j) → tmpV 86 F' = .bool t → (∀ q, q < 12 → tmpV q F' = tmpV q F) → wpc fns (.cond (.t 86) (.seq (.reg [⟨some 4, .q (.mv (.c .nilsl)), none, 0⟩, ⟨some 5, .q (.mv (.c (.int .i64 (.ofNat 2)))), none, 0⟩]) .ret) .skip) ⟨F', false⟩ Y (fun o A' Z => Z = Y ∧ (o = .ret ∧ badSt rows i j ∧ tmpV 4 A'.F = .nilsl ∧ tmpV 5 A'.F = .int .i64 2 ∨ o = .normal ∧ ¬ badSt rows i j ∧ XrS S X2 v u s i X.nx A' Z ∧ tmpV 10 A'.F = .int .i64 (j : Int))) := by
            intro F' t ht t86 hq
            cases t with
            | true =>
              refine wpc_yes t86 (wpc_seq (wpc_reg ?_))
              simp only [↓stU, stD, reduceEqDiff, ↓reduceIte]
              refine wpc_ret ?_
              exact ⟨rfl, .inl ⟨rfl, ht.1 rfl, by simp only [↓stU, stD, reduceEqDiff, ↓reduceIte], by simp only [↓stU, stD, reduceEqDiff, ↓reduceIte]⟩⟩
            | false =>
              exact wpc_non t86 (wpc_skip ⟨rfl, .inr ⟨rfl, (fun hb => by cases ht.2 hb), ⟨rfl, (hq 0 (by omega)).trans p0, (hq 1 (by omega)).trans p1, (hq 7 (by omega)).trans p7, (hq 8 (by omega)).trans p8, (hq 9 (by omega)).trans p9, hY⟩, (hq 10 (by omega)).trans p10⟩⟩)
          have low : ∀ (c t : Nat) (G : Fr) (x : AV), t < 12 → 12 ≤ c → tmpV t (putF (some c) G x) = tmpV t G := fun c t G x h1 h2 => by rw [tmpV_putF, if_neg (by omega)]
          by_cases c1 : w < -2000000000
          · simp only [↓stU, stD, reduceEqDiff, ↓reduceIte, p0, p8, p10, natOf_cast, ia, la, sa, ja, jl, show (Int.negSucc 1999999999 : Int) = -2000000000 from rfl, decide_eq_true c1]
            exact fin _ true (by rw [bad]; exact ⟨fun _ => .inl c1, fun _ => rfl⟩) (by simp only [↓stU, stD, reduceEqDiff, ↓reduceIte]) (fun q hq => by simp (disch := omega) only [low])
          by_cases c2 : 2000000000 < w
          · simp only [↓stU, stD, reduceEqDiff, ↓reduceIte, p0, p8, p10, natOf_cast, ia, la, sa, ja, jl, show (Int.negSucc 1999999999 : Int) = -2000000000 from rfl, decide_eq_false c1, decide_eq_true c2]
            exact fin _ true (by rw [bad]; exact ⟨fun _ => .inr (.inl c2), fun _ => rfl⟩) (by simp only [↓stU, stD, reduceEqDiff, ↓reduceIte]) (fun q hq => by simp (disch := omega) only [low])
          by_cases c3 : i = j
          · simp only [↓stU, stD, reduceEqDiff, ↓reduceIte, p0, p8, p10, natOf_cast, ia, la, sa, ja, jl, show (Int.negSucc 1999999999 : Int) = -2000000000 from rfl, decide_eq_false c1, decide_eq_false c2, deq, decide_eq_true c3]
            exact fin _ (decide (w ≠ 0)) (by rw [bad, decide_eq_true_eq]; omega) (by simp only [↓stU, stD, reduceEqDiff, ↓reduceIte]) (fun q hq => by simp (disch := omega) only [low])
          · simp only [↓stU, stD, reduceEqDiff, ↓reduceIte, p0, p8, p10, natOf_cast, ia, la, sa, ja, jl, show (Int.negSucc 1999999999 : Int) = -2000000000 from rfl, decide_eq_false c1, decide_eq_false c2, deq, decide_eq_false c3]
            exact fin _ false (by rw [bad]; simp only [Bool.false_eq_true, false_iff]; omega) (by simp only [↓stU, stD, reduceEqDiff, ↓reduceIte]) (fun q hq => by simp (disch := omega) only [low])
        · clear p0 p1 p7 p8 p9 p10
          rintro o ⟨F, inr⟩ Z ⟨rfl, ⟨rfl, hb, p4, p5⟩ | ⟨rfl, hb, ⟨q0, p0, p1, p7, p8, p9, _⟩, p10⟩⟩
          · exact ⟨sY, .inl ⟨rfl, hb, p4, p5⟩⟩
          simp only at q0 p0 p1 p7 p8 p9 p10
          subst q0
          have bnd := sum_bound (rows.getD i []) (j + 1) fun t ht => by
            by_cases e : t = j
            · subst e
              unfold badSt at hb
              omega
            · have := hgj t (by omega)
              unfold badSt at this
              omega
          rw [sumS_take _ hjr, ← hw] at bnd
          have e1 : qLdV (.ptr X.nx (0 + 1)) false 1 Z.h = some (.int .i64 ((rows.getD i []).take j).sum) := lg3_1 gY
          try simp only [↓stU, stD, reduceEqDiff, ↓reduceIte]
          refine wpc_drt 11 rfl (by decide) (by decide) ?_
          simp only [↓stU, stD, reduceEqDiff, ↓reduceIte, List.take_succ_cons, List.take_zero, p0, p8, p9, p10, natOf_cast, evQ_faddr, faddr_ptr, isLoad_faddr, e1, ia, la, sa, ja, jl, wrap_i64 (n := ((rows.getD i []).take j).sum + w) (by omega) (by omega), cells_int]
          refine ⟨_, stc (S := ⟨Z.h, Z.nx + (11 + 1)⟩) (p := 0 + 1) (w := .int .i64 (((rows.getD i []).take j).sum + w)) gY (by simp [rkCs]), ?_⟩
          have hY' : SameBut X.nx X2 ⟨Z.h.set X.nx (some (.cells (rkCs ((i : Int), ((rows.getD i []).take j).sum + w, s * ((rows.length : Int) - 1))) false 0)), Z.nx + (11 + 1)⟩ := (hY.put _).nx 12
          refine ⟨SameBut.same (hX.trans x2) hY' hXX, .inr ⟨hb, ⟨rfl, by simp only [↓stU, stD, reduceEqDiff, ↓reduceIte, p0], by simp only [↓stU, stD, reduceEqDiff, ↓reduceIte, p1], by simp only [↓stU, stD, reduceEqDiff, ↓reduceIte, p7], by simp only [↓stU, stD, reduceEqDiff, ↓reduceIte, p8], by simp only [↓stU, stD, reduceEqDiff, ↓reduceIte, p9], hY'⟩, ?_⟩⟩
          rw [sumS_take _ hjr, ← hw]
          try simp only
          rw [T.get_set, if_pos rfl]
          rfl
        · clear p0 p1 p7 p8 p9 p10 hY gY
          rintro o ⟨F, inr⟩ Z ⟨sZ, ⟨rfl, hb, p4, p5⟩ | ⟨rfl, hb, ⟨q0, p0, p1, p7, p8, p9, hY⟩, p10, gY⟩⟩
          · refine ⟨sZ, .inl ⟨rfl, ?_⟩⟩
            rw [stE_3 h20 hq hs hi hj hb]
            exact ⟨by omega, p4, p5⟩
          simp only at q0 p0 p1 p7 p8 p9 p10
          subst q0
          try simp only [↓stU, stD, reduceEqDiff, ↓reduceIte]
          refine wpc_reg ?_
          simp only [↓stU, stD, reduceEqDiff, ↓reduceIte, p10, wadd1 (a := j) (by omega)]
          refine ⟨m - 1, by omega, ⟨rfl, by simp only [↓stU, stD, reduceEqDiff, ↓reduceIte, p0], by simp only [↓stU, stD, reduceEqDiff, ↓reduceIte, p1], by simp only [↓stU, stD, reduceEqDiff, ↓reduceIte, p7], by simp only [↓stU, stD, reduceEqDiff, ↓reduceIte, p8], by simp only [↓stU, stD, reduceEqDiff, ↓reduceIte, p9], hY⟩, j + 1, by omega, fun j' hj' => ?_, by simp only [↓stU, stD, reduceEqDiff, ↓reduceIte], gY⟩
          by_cases e : j' = j
          · rw [e]; exact hb
          · exact hgj j' (by omega)
      clear p0 p1 p7 p8
      rintro o ⟨F, inr⟩ Y ⟨sY, ⟨rfl, hne, p4, p5⟩ | ⟨rfl, hgi, ⟨q0, p0, p1, p7, p8, p9, hY⟩, gY⟩⟩
      · exact ⟨sY, .inl ⟨rfl, hne, p4, p5⟩⟩
      simp only at q0 p0 p1 p7 p8 p9
      subst q0
      try simp only [↓stU, stD, reduceEqDiff, ↓reduceIte]
      -- the place
      have gwY : ∀ Z, SameBut X.nx X2 Z → GrW 3 S Z u i (R.flatMap rkCs) := fun Z hZ => (gw.step x2).move hZ.1 fun c hc => hZ.2 c (by have := (gw.blk hc).2.1; omega) (by have := (gw.blk hc).2.1; omega)
      have isR : ∀ Z, SameBut X.nx X2 Z → IsSlG 3 RkE Z u R := fun Z hZ => by
        have := gwY Z hZ
        rw [← hRl] at this
        exact this.rk
      refine wsr ?_
      simp only [↓stU, stD, reduceEqDiff, ↓reduceIte, p7, (isR Y hY).len, hRl]
      refine wpc_seq (wpc_mono (Q := fun o A' Z => o = .normal ∧ ∃ p : Nat, XaI S X2 v u s i X.nx R (rkAt rows s i) p A' Z ∧ (0 < p → ∀ r, R[p - 1]? = some r → (rkAt rows s i).2.1 ≤ r.2.1)) (wpc_block (wpc_loop (XaI S X2 v u s i X.nx R (rkAt rows s i)) ?_ i _ _ ⟨⟨rfl, by simp only [↓stU, stD, reduceEqDiff, ↓reduceIte, p0], by simp only [↓stU, stD, reduceEqDiff, ↓reduceIte, p1], by simp only [↓stU, stD, reduceEqDiff, ↓reduceIte, p7], by simp only [↓stU, stD, reduceEqDiff, ↓reduceIte, p8], by simp only [↓stU, stD, reduceEqDiff, ↓reduceIte, p9], hY⟩, by omega, by simp only [↓stU, stD, reduceEqDiff, ↓reduceIte], fun j r hj hr => (by rw [List.getElem?_eq_none (by omega)] at hr; cases hr), gY⟩)) ?_)
      · clear p0 p1 p7 p8 p9 gY sY hY
        rintro p ⟨F, inr⟩ Z ⟨⟨q0, p0, p1, p7, p8, p9, hZ⟩, hpR, p11, hlow, gZ⟩
        simp only at q0 p0 p1 p7 p8 p9 p11
        subst q0
        refine wpc_seq (wpc_seq (wpc_drq ?_))
        cases p with
        | zero =>
          simp only [↓stU, stD, reduceEqDiff, ↓reduceIte, p11]
          refine wpc_non (by simp only [↓stU, stD, reduceEqDiff, ↓reduceIte]; rfl) (wpc_exit ?_)
          exact ⟨rfl, 0, ⟨⟨rfl, by simp only [↓stU, stD, reduceEqDiff, ↓reduceIte, p0], by simp only [↓stU, stD, reduceEqDiff, ↓reduceIte, p1], by simp only [↓stU, stD, reduceEqDiff, ↓reduceIte, p7], by simp only [↓stU, stD, reduceEqDiff, ↓reduceIte, p8], by simp only [↓stU, stD, reduceEqDiff, ↓reduceIte, p9], hZ.nx _⟩, hpR, by simp only [↓stU, stD, reduceEqDiff, ↓reduceIte, p11], hlow, gZ⟩, fun h => by omega⟩
        | succ t =>
          have htR : t < R.length := by omega
          obtain ⟨e, b, q, ia, lb, _, he, _, lf⟩ := IsSlG.at (isR Z hZ) (by decide) (List.getElem?_eq_getElem htR)
          have he : e = rkCs R[t] := he
          subst he
          have l1 : qLdV (.ptr b (q + 1)) false 1 Z.h = some (.int .i64 R[t].2.1) := lf 1 _ rfl
          have l2 : qLdV (.ptr X.nx (0 + 1)) false 1 Z.h = some (.int .i64 (rkAt rows s i).2.1) := lg3_1 gZ
          have w1 : IntKind.i64.wrap (((t + 1 : Nat) : Int) - 1) = (t : Int) := wsub1 (a := t + 1) (by omega) (by omega)
          simp only [↓stU, stD, reduceEqDiff, ↓reduceIte, p7, p9, p11, decide_eq_true (show (0 : Int) < ((t + 1 : Nat) : Int) by omega), w1, natOf_cast, ia, evQ_faddr, faddr_ptr, isLoad_faddr, l1, l2]
          by_cases hlt : R[t].2.1 < (rkAt rows s i).2.1
          · refine wpc_yes (by simp only [↓stU, stD, reduceEqDiff, ↓reduceIte, decide_eq_true hlt]) (wpc_skip ?_)
            try simp only [↓stU, stD, reduceEqDiff, ↓reduceIte]
            refine wpc_block (wpc_reg ?_)
            simp only [↓stU, stD, reduceEqDiff, ↓reduceIte, p11, w1]
            refine ⟨t, by omega, ⟨rfl, by simp only [↓stU, stD, reduceEqDiff, ↓reduceIte, p0], by simp only [↓stU, stD, reduceEqDiff, ↓reduceIte, p1], by simp only [↓stU, stD, reduceEqDiff, ↓reduceIte, p7], by simp only [↓stU, stD, reduceEqDiff, ↓reduceIte, p8], by simp only [↓stU, stD, reduceEqDiff, ↓reduceIte, p9], hZ.nx _⟩, by omega, by simp only [↓stU, stD, reduceEqDiff, ↓reduceIte], fun j r hj hr => ?_, gZ⟩
            by_cases ej : j = t
            · subst ej
              rw [List.getElem?_eq_getElem htR] at hr
              cases hr
              exact hlt
            · exact hlow j r (by omega) hr
          · refine wpc_non (by simp only [↓stU, stD, reduceEqDiff, ↓reduceIte, decide_eq_false hlt]) (wpc_exit ?_)
            refine ⟨rfl, t + 1, ⟨⟨rfl, by simp only [↓stU, stD, reduceEqDiff, ↓reduceIte, p0], by simp only [↓stU, stD, reduceEqDiff, ↓reduceIte, p1], by simp only [↓stU, stD, reduceEqDiff, ↓reduceIte, p7], by simp only [↓stU, stD, reduceEqDiff, ↓reduceIte, p8], by simp only [↓stU, stD, reduceEqDiff, ↓reduceIte, p9], hZ.nx _⟩, hpR, by simp only [↓stU, stD, reduceEqDiff, ↓reduceIte, p11], hlow, gZ⟩, fun _ r hr => ?_⟩
            rw [Nat.add_sub_cancel, List.getElem?_eq_getElem htR] at hr
            cases hr
            omega
      clear p0 p1 p7 p8 p9 gY sY hY
      rintro o ⟨F, inr⟩ Y ⟨rfl, p, ⟨⟨q0, p0, p1, p7, p8, p9, hY⟩, hpR, p11, hlow, gY⟩, hup⟩
      simp only at q0 p0 p1 p7 p8 p9 p11
      subst q0
      try simp only [↓stU, stD, reduceEqDiff, ↓reduceIte]
      have sY : Same S Y := SameBut.same (hX.trans x2) hY hXX
      -- room for one more
      refine wsr ?_
      simp only [↓stU, stD, reduceEqDiff, ↓reduceIte, p7, isLoad_build]
      rw [show evQ (.build [.int .i64 0, .int .i64 0, .int .i64 0] []) (putF (some 115) F u) Y.h = some (rkV (0, 0, 0)) from rfl]
      simp only [↓stU, stD, reduceEqDiff, ↓reduceIte]
      refine wpo_al (evA_r3 (r := (0, 0, 0)) (by simp only [↓stU, stD, reduceEqDiff, ↓reduceIte])) ?_
      intro Z z nZ gZ
      try simp only [↓stU, stD, reduceEqDiff, ↓reduceIte, p7]
      have gwZ : GrW 3 S Z u R.length (R.flatMap rkCs) := by
        rw [hRl]
        exact (gwY Y hY).step z
      obtain ⟨u', W, eA, gA, sA, nA, kA⟩ := push_rk (r := (0, 0, 0)) gwZ (sY.trans z) gZ (by omega)
      refine wpo_x (v := u') (S1 := W) (fun call => by rw [evX_app]; simp only [↓stU, stD, reduceEqDiff, ↓reduceIte]; exact eA) ?_
      simp only [↓stU, stD, reduceEqDiff, ↓reduceIte]
      have gX : W.h.get X.nx = some (.cells (rkCs (rkAt rows s i)) false 0) := by
        have h1 := hY.1
        have h2 := z.1
        refine (kA X.nx (by omega) ?_).trans ((z.2 X.nx (by omega)).trans gY)
        intro hc
        have := (gw.blk hc).2.1
        omega
      rcases gA with ⟨_, h0, _⟩ | ⟨b, rfl, hb1, hb2, hb3, hb4⟩
      · simp at h0
      have hRl2 : (R ++ [(0, 0, 0)]).length = R.length + 1 := by simp
      rw [hRl2] at *
      have hbX : b ≠ X.nx := fun hc => by
        rw [hc] at hb3
        rw [hb3] at gX
        injection gX with h1
        injection h1 with _ h2
        cases h2
      -- the others go up
      obtain ⟨r0, W2, M, m1, m2, m3, m4, m5, m6, m7⟩ := shift_rk (X := ⟨W.h, W.nx + 8⟩) (p := p) hb3 hpR
      refine wpc_seq (wpc_drd2 (fun c => c = b) ?_)
      intro W1 w1 hW1 nW1
      simp only [List.length_cons, List.length_nil, reduceAdd] at nW1
      have eW1 : W1 = ⟨W.h, W.nx + 8⟩ := by
        obtain ⟨hh, nn⟩ := W1
        simp only at hW1 nW1
        rw [hW1, nW1]
      subst eW1
      simp only [↓sU, sD, reduceEqDiff, ↓reduceIte, reduceAdd, p11, isLoad_slc, wadd1 (a := p) (by omega)]
      rw [slc_from (i := p + 1) (n := R.length + 1) (by simp only [↓sU, sD, reduceEqDiff, ↓reduceIte, reduceAdd, natOf_cast]) (by omega)]
      simp only [↓sU, sD, reduceEqDiff, ↓reduceIte, reduceAdd, p11]
      rw [slc_from (i := p) (n := R.length + 1) (by simp only [↓sU, sD, reduceEqDiff, ↓reduceIte, reduceAdd, natOf_cast]) (by omega)]
      simp only [↓sU, sD, reduceEqDiff, ↓reduceIte, reduceAdd]
      refine runD_copy rfl (r := r0) (S1 := W2) (by simp only [↓sU, sD, reduceEqDiff, ↓reduceIte, reduceAdd]; exact m1) ⟨by omega, fun c hc hcb => m3 c hcb⟩ ?_
      simp only [↓sU, sD, reduceEqDiff, ↓reduceIte, reduceAdd]
      have nW2 : W2.nx = W.nx + 8 := m2
      -- and the rank goes there
      have gX2 : W2.h.get X.nx = some (.cells (rkCs (rkAt rows s i)) false 0) := (m3 _ (fun h => hbX h.symm)).trans gX
      have ia : iaddrV (.slice 3) (.sl b 0 (R.length + 1) (R.length + 1) true) p = some (.ptr b (0 + p * 3)) := by
        show bsel (Nat.blt p (R.length + 1)) _ _ = _
        rw [show Nat.blt p (R.length + 1) = true from Nat.ble_eq_true_of_le (by omega), bsel_true]
      have hst := put_rk (x := rkAt rows s i) m4 m5 hpR m6 m7
      refine wpc_reg ?_
      simp only [↓stU, stD, reduceEqDiff, ↓reduceIte, p9, p11, ld_r gX2, rkV_self, natOf_cast, ia]
      refine wpo_x (v := .undef) (fun call => by rw [evX_st]; simp only [↓stU, stD, reduceEqDiff, ↓reduceIte, rkV_cells]; exact hst) ?_
      simp only [↓stU, stD, reduceEqDiff, ↓reduceIte]
      refine ⟨⟨?_, fun c hc => ?_⟩, .inr ⟨by simp only [↓stU, stD, reduceEqDiff, ↓reduceIte, p0], by simp only [↓stU, stD, reduceEqDiff, ↓reduceIte, p1], by simp only [↓stU, stD, reduceEqDiff, ↓reduceIte, p8], hgi, _, R.take p ++ rkAt rows s i :: R.drop p, rfl, ?_, ?_, ?_, ?_⟩⟩
      · have := sA.1
        show S.nx ≤ W2.nx
        omega
      · simp only
        rw [T.get_set, if_neg (by omega), m3 c (by omega)]
        exact sA.2 c hc
      · rw [List.length_append, List.length_cons, List.length_take, List.length_drop]
        omega
      · refine ins_perm.trans ?_
        rw [rks_take rows s hi]
        exact hRp.append_right _
      · refine ins_rk hpR hlow hup hRs fun r hr => ?_
        obtain ⟨t, ht, rfl⟩ := List.mem_map.1 (hRp.mem_iff.1 hr)
        have := List.mem_range.1 ht
        simp only [rkAt]
        omega
      · refine .inr ⟨b, by rw [hRl], hb1, by show b < W2.nx; omega, by simp only; rw [T.get_set, if_pos rfl], ?_⟩
        rw [rk_flat_len, List.length_append, List.length_cons, List.length_take, List.length_drop]
        omega
    clear p0 p1 p7 p8
    rintro o ⟨F, inr⟩ W ⟨sW, ⟨rfl, hne, p4, p5⟩ | ⟨rfl, q0, p0, p1, p8, hgi, u', R', p7, r1, r2, r3, gw'⟩⟩
    · exact ⟨sW, .inl ⟨rfl, hne, p4, p5⟩⟩
    simp only at q0 p0 p1 p7 p8
    subst q0
    try simp only [↓stU, stD, reduceEqDiff, ↓reduceIte]
    refine wpc_reg ?_
    simp only [↓stU, stD, reduceEqDiff, ↓reduceIte, p8, wadd1 (a := i) (by omega)]
    refine ⟨k - 1, by omega, rfl, sW, by simp only [↓stU, stD, reduceEqDiff, ↓reduceIte, p0], by simp only [↓stU, stD, reduceEqDiff, ↓reduceIte, p1], i + 1, u', R', by omega, r1, r2, r3, fun i' j h1 h2 => ?_, by simp only [↓stU, stD, reduceEqDiff, ↓reduceIte, p7], by simp only [↓stU, stD, reduceEqDiff, ↓reduceIte], gw'⟩
    by_cases e : i' = i
    · rw [e]; exact hgi j h2
    · exact hg i' j (by omega) h2
  clear p0 p1
  rintro o ⟨F, inr⟩ X ⟨sX, ⟨rfl, hne, p4, p5⟩ | ⟨rfl, hg, u, R, p7, r1, r2, r3, gw⟩⟩
  · simp only at p4 p5
    simp only [↓stU, stD, reduceEqDiff, ↓reduceIte, p4, p5]
    exact ⟨sX, .inl ⟨hne, rfl⟩⟩
  simp only at p7
  try simp only [↓stU, stD, reduceEqDiff, ↓reduceIte]
  refine wsr ?_
  simp only [↓stU, stD, reduceEqDiff, ↓reduceIte, p7]
  refine wpc_ret ?_
  simp only [↓stU, stD, reduceEqDiff, ↓reduceIte]
  refine ⟨sX, .inr ⟨stE_0 h20 hq hs hg, u, R, rfl, ?_, r2, r3⟩⟩
  rw [← r1] at gw
  exact gw.rk
end Go.Ev.Gl

namespace Go.Ev.Gl
open Go.Sort
variable {fns : T AFn}

/-! ## The law -/
theorem neq_rk (r : Int × Int × Int) : binV .neq (.struct [(0, .int), (1, .int), (2, .int)]) (rkV r) (rkV r) = some (.bool false) := by
  have k : ∀ y : Int, eqp .int (.int .i64 y) (.int .i64 y) = some true := fun y => by
    show bsel (keq .i64 .i64) (some (ieq y y)) none = _
    rw [keq_refl, bsel_true, ieq_eq]
    congr 1
    simp
  have e : eqv (.struct [(0, .int), (1, .int), (2, .int)]) (rkV r) (rkV r) = some true := by
    show eqs [(0, .int), (1, .int), (2, .int)] [.int .i64 r.1, .int .i64 r.2.1, .int .i64 r.2.2] [.int .i64 r.1, .int .i64 r.2.1, .int .i64 r.2.2] = _
    unfold eqs
    show (match eqp .int (.int .i64 r.1) (.int .i64 r.1) with | some true => _ | some false => _ | none => _) = _
    rw [k]
    unfold eqs
    show (match eqp .int (.int .i64 r.2.1) (.int .i64 r.2.1) with | some true => _ | some false => _ | none => _) = _
    rw [k]
    unfold eqs
    show (match eqp .int (.int .i64 r.2.2) (.int .i64 r.2.2) with | some true => _ | some false => _ | none => _) = _
    rw [k]
    rfl
  show osel (eqv (.struct [(0, .int), (1, .int), (2, .int)]) _ _) _ = _
  rw [e, osel_some]
  rfl
theorem sameRanks_spec {S : St} {a b : AV} {L : List (Int × Int × Int)} (H : Has fns) (ha : IsSlG 3 RkE S a L) (hb : IsSlG 3 RkE S b L) (hl : L.length ≤ 1000000) : wpf fns (.fn 7 [] []) [a, b] S fun r S' => r = .bool true ∧ Same S S' := by
  refine wpf_fn H.f7 (by simp) ?_
  simp only [↓stU, stD, reduceEqDiff, ↓reduceIte, reduceAdd]
  refine wsr ?_
  simp only [↓stU, stD, reduceEqDiff, ↓reduceIte, reduceAdd]
  refine wss ?_
  simp only [↓stU, stD, reduceEqDiff, ↓reduceIte, ha.len, hb.len]
  refine wpc_non (by simp only [↓stU, stD, reduceEqDiff, ↓reduceIte, decide_eq_false (show ¬ (L.length : Int) ≠ (L.length : Int) from fun h => h rfl)]) (wpc_skip ?_)
  try simp only [↓stU, stD, reduceEqDiff, ↓reduceIte]
  refine wpc_seq (wpc_mono (Q := fun o A' X => o = .normal ∧ Same S X) (wpc_seq (wpc_reg ?_)) ?_)
  · simp only [↓stU, stD, reduceEqDiff, ↓reduceIte]
    refine wpc_block (wpc_loop (fun k A' X => A'.inr = false ∧ Same S X ∧ ∃ i : Nat, i + k = L.length ∧ tmpV 0 A'.F = a ∧ tmpV 1 A'.F = b ∧ tmpV 5 A'.F = .int .i64 (i : Int)) ?_ L.length _ _ ⟨rfl, Same.refl _, 0, by omega, by simp only [↓stU, stD, reduceEqDiff, ↓reduceIte], by simp only [↓stU, stD, reduceEqDiff, ↓reduceIte], by simp only [↓stU, stD, reduceEqDiff, ↓reduceIte]⟩)
    rintro k ⟨F, inr⟩ X ⟨q0, hX, i, hik, p0, p1, p5⟩
    simp only at q0 p0 p1 p5
    subst q0
    refine wss ?_
    simp only [↓stU, stD, reduceEqDiff, ↓reduceIte, p0, p5, ha.len, dlt]
    by_cases hi : i < L.length
    rotate_left
    · refine wpc_non (by simp only [↓stU, stD, reduceEqDiff, ↓reduceIte, decide_eq_false hi]) (wpc_exit ?_)
      exact ⟨rfl, hX⟩
    refine wpc_yes (by simp only [↓stU, stD, reduceEqDiff, ↓reduceIte, decide_eq_true hi]) (wpc_skip ?_)
    try simp only [↓stU, stD, reduceEqDiff, ↓reduceIte]
    obtain ⟨e1, b1, q1, ia, _, _, h1, la, _⟩ := IsSlG.at (IsSlG.same (E := RkE) firm_rk ha hX) (by decide) (List.getElem?_eq_getElem hi)
    obtain ⟨e2, b2, q2, ib, _, _, h2, lb, _⟩ := IsSlG.at (IsSlG.same (E := RkE) firm_rk hb hX) (by decide) (List.getElem?_eq_getElem hi)
    have h1 : e1 = rkCs L[i] := h1
    have h2 : e2 = rkCs L[i] := h2
    subst h1 h2
    have la : qLdV (.ptr b1 q1) true 3 X.h = some (rkV L[i]) := la
    have lb : qLdV (.ptr b2 q2) true 3 X.h = some (rkV L[i]) := lb
    refine wpc_seq (wpc_block (wpc_seq (wpc_drq ?_)))
    simp only [↓stU, stD, reduceEqDiff, ↓reduceIte, p0, p1, p5, natOf_cast, ia, ib, la, lb, rkV_self, neq_rk]
    refine wpc_non (by simp only [↓stU, stD, reduceEqDiff, ↓reduceIte]) (wpc_skip ?_)
    try simp only [↓stU, stD, reduceEqDiff, ↓reduceIte]
    refine wpc_reg ?_
    simp only [↓stU, stD, reduceEqDiff, ↓reduceIte, p5, wadd1 (a := i) (by omega)]
    exact ⟨k - 1, by omega, hX.trans (Same.nx _ _), i + 1, by omega, p0, p1, rfl⟩
  rintro o ⟨F, inr⟩ X ⟨rfl, hX⟩
  try simp only [↓stU, stD, reduceEqDiff, ↓reduceIte]
  refine wsr ?_
  simp only [↓stU, stD, reduceEqDiff, ↓reduceIte]
  refine wpc_ret ?_
  simp only [↓stU, stD, reduceEqDiff, ↓reduceIte]
  exact hX
/-- a list of lists that holds the first i rows -/
def OwnI (S : St) (v : AV) (rows : List (List Int)) (s : Int) (k : Nat) (A : Act') (X : St) : Prop := A.inr = false ∧ Same S X ∧ tmpV 0 A.F = v ∧ tmpV 1 A.F = .int .i64 s ∧ ∃ (i : Nat) (u : AV) (cs : List AV), i + k = rows.length ∧ (∀ j, j < i → (rows.getD j []).length ≤ 30) ∧ tmpV 5 A.F = u ∧ tmpV 6 A.F = .int .i64 (i : Int) ∧ GrW 1 S X u i cs ∧ RowsB S X u cs (rows.take i)
set_option maxHeartbeats 4000000 in
theorem stands_spec {S : St} {v : AV} {rows : List (List Int)} {s : Int} (H : Has fns) (hAw : ∀ S, wpf fns (.fn 4 [] []) [] S fun r S' => r = .bool true ∧ Same S S') (h : IsSlG 1 SlE S v rows) : wpf fns (.fn 3 [] []) [v, .int .i64 s] S fun r S' => r = .bool true ∧ Same S S' := by
  refine wpf_fn H.f3 (by simp) ?_
  simp only [↓stU, stD, reduceEqDiff, ↓reduceIte, reduceAdd]
  refine wsr ?_
  simp only [↓stU, stD, reduceEqDiff, ↓reduceIte, reduceAdd]
  refine wss ?_
  simp only [↓stU, stD, reduceEqDiff, ↓reduceIte, h.len]
  by_cases h30 : 30 < rows.length
  · refine wpc_yes (by simp only [↓stU, stD, reduceEqDiff, ↓reduceIte, decide_eq_true (show (30 : Int) < (rows.length : Int) by omega)]) (wpc_seq (wpc_reg ?_))
    try simp only [↓stU, stD, reduceEqDiff, ↓reduceIte]
    refine wpo_call ?_
    try simp only [↓stU, stD, reduceEqDiff, ↓reduceIte]
    refine wpf_mono (hAw _) ?_
    rintro _ X ⟨rfl, hX⟩
    try simp only [↓stU, stD, reduceEqDiff, ↓reduceIte]
    refine wpc_ret ?_
    try simp only [↓stU, stD, reduceEqDiff, ↓reduceIte]
    exact hX
  refine wpc_non (by simp only [↓stU, stD, reduceEqDiff, ↓reduceIte, decide_eq_false (show ¬ (30 : Int) < (rows.length : Int) by omega)]) (wpc_skip ?_)
  try simp only [↓stU, stD, reduceEqDiff, ↓reduceIte]
  refine wsr ?_
  try simp only [↓stU, stD, reduceEqDiff, ↓reduceIte]
  refine wpc_seq (wpc_mono (Q := fun o A' X => Same S X ∧ (o = .ret ∧ tmpV 4 A'.F = .bool true ∨ o = .normal ∧ A'.inr = false ∧ tmpV 0 A'.F = v ∧ tmpV 1 A'.F = .int .i64 s ∧ (∀ x ∈ rows, x.length ≤ 30) ∧ ∃ u, tmpV 5 A'.F = u ∧ IsSlG 1 SlE X u rows)) (wpc_seq (wpc_reg ?_)) ?_)
  · simp only [↓stU, stD, reduceEqDiff, ↓reduceIte]
    refine wpc_block (wpc_loop (OwnI S v rows s) ?_ rows.length _ _ ⟨rfl, Same.refl _, by simp only [↓stU, stD, reduceEqDiff, ↓reduceIte], by simp only [↓stU, stD, reduceEqDiff, ↓reduceIte], 0, .nilsl, [], by omega, fun j hj => by omega, by simp only [↓stU, stD, reduceEqDiff, ↓reduceIte], by simp only [↓stU, stD, reduceEqDiff, ↓reduceIte], .inl ⟨rfl, rfl, rfl⟩, rfl, fun j hj => by simp at hj⟩)
    rintro k ⟨F, inr⟩ X ⟨q0, hX, p0, p1, i, u, cs, hik, hsm, p5, p6, gw, rb⟩
    simp only at q0 p0 p1 p5 p6
    subst q0
    refine wss ?_
    simp only [↓stU, stD, reduceEqDiff, ↓reduceIte, p0, p6, h.len, dlt]
    by_cases hi : i < rows.length
    rotate_left
    · have e : i = rows.length := by omega
      subst e
      rw [List.take_length] at rb
      refine wpc_non (by simp only [↓stU, stD, reduceEqDiff, ↓reduceIte, decide_eq_false hi]) (wpc_exit ?_)
      refine ⟨hX, .inr ⟨rfl, rfl, by simp only [↓stU, stD, reduceEqDiff, ↓reduceIte, p0], by simp only [↓stU, stD, reduceEqDiff, ↓reduceIte, p1], fun x hx => ?_, u, by simp only [↓stU, stD, reduceEqDiff, ↓reduceIte, p5], rb.is gw rfl⟩⟩
      obtain ⟨j, hj⟩ := List.getElem?_of_mem hx
      have hjl := (List.getElem?_eq_some_iff.1 hj).1
      have := hsm j hjl
      rwa [List.getD_eq_getElem?_getD, hj] at this
    refine wpc_yes (by simp only [↓stU, stD, reduceEqDiff, ↓reduceIte, decide_eq_true hi]) (wpc_skip ?_)
    try simp only [↓stU, stD, reduceEqDiff, ↓reduceIte]
    obtain ⟨a, b, p, ia, lb, la, hr⟩ := rowS_at (IsSlG.same (E := SlE) firm_sl h hX) hi
    have sa := IsSl.self hr
    refine wpc_seq (wpc_mono (Q := fun o A' Z => Same S Z ∧ (o = .ret ∧ tmpV 4 A'.F = .bool true ∨ o = .normal ∧ A'.inr = false ∧ tmpV 0 A'.F = v ∧ tmpV 1 A'.F = .int .i64 s ∧ tmpV 6 A'.F = .int .i64 (i : Int) ∧ (rows.getD i []).length ≤ 30 ∧ ∃ (u' : AV) (cs' : List AV), tmpV 5 A'.F = u' ∧ GrW 1 S Z u' (i + 1) cs' ∧ RowsB S Z u' cs' (rows.take (i + 1)))) (wpc_block (wpc_seq (wpc_seq (wpc_reg ?_)))) ?_)
    · simp only [↓stU, stD, reduceEqDiff, ↓reduceIte, p0, p6, natOf_cast, ia, la, hr.len]
      by_cases h3 : 30 < (rows.getD i []).length
      · refine wpc_yes (by simp only [↓stU, stD, reduceEqDiff, ↓reduceIte, decide_eq_true (show (30 : Int) < ((rows.getD i []).length : Int) by omega)]) (wpc_seq (wpc_reg ?_))
        try simp only [↓stU, stD, reduceEqDiff, ↓reduceIte]
        refine wpo_call ?_
        try simp only [↓stU, stD, reduceEqDiff, ↓reduceIte]
        refine wpf_mono (hAw _) ?_
        rintro _ Z ⟨rfl, hZ⟩
        try simp only [↓stU, stD, reduceEqDiff, ↓reduceIte]
        refine wpc_ret ?_
        exact ⟨hX.trans hZ, .inl ⟨rfl, by simp only [↓stU, stD, reduceEqDiff, ↓reduceIte]⟩⟩
      refine wpc_non (by simp only [↓stU, stD, reduceEqDiff, ↓reduceIte, decide_eq_false (show ¬ (30 : Int) < ((rows.getD i []).length : Int) by omega)]) (wpc_skip ?_)
      try simp only [↓stU, stD, reduceEqDiff, ↓reduceIte]
      refine wpc_reg ?_
      simp only [↓stU, stD, reduceEqDiff, ↓reduceIte, p5]
      refine wpo_al evA_none ?_
      intro X1 x1 n1 g1
      try simp only [↓stU, stD, reduceEqDiff, ↓reduceIte, p0, p6, natOf_cast]
      have ia' := ia
      have la' : qLdV (.ptr b p) false 1 X1.h = some a := (ldSame x1 lb).trans la
      simp only [↓stU, stD, reduceEqDiff, ↓reduceIte, ia, la', sa]
      obtain ⟨r, X2, e1, i2, s2, b2⟩ := app_cp (k := 1) (bytes := 8) (E := Int1) (l := rows.getD i []) firm_int1 Nat.one_pos g1 (by omega) (toG (hr.same x1)) (by unfold room; omega) (by unfold room; omega)
      refine wpo_x (v := r) (S1 := X2) (fun call => by rw [evX_app]; simp only [↓stU, stD, reduceEqDiff, ↓reduceIte]; exact e1) ?_
      try simp only [↓stU, stD, reduceEqDiff, ↓reduceIte]
      refine wpo_al (evA_row (ofG i2) (by simp only [↓stU, stD, reduceEqDiff, ↓reduceIte])) ?_
      intro X3 x3 n3 g3
      try simp only [↓stU, stD, reduceEqDiff, ↓reduceIte, p5]
      have s23 := s2.trans x3
      have s13 := x1.trans s23
      obtain ⟨u', Z, e4, g4, b4, n4, k4⟩ := GrW.push1 (bytes := 24) (gw.step s13) (hX.trans s13) g3 (by unfold room; omega) (by unfold room; omega)
      refine wpo_x (v := u') (S1 := Z) (fun call => by rw [evX_app]; simp only [↓stU, stD, reduceEqDiff, ↓reduceIte]; exact e4) ?_
      try simp only [↓stU, stD, reduceEqDiff, ↓reduceIte]
      have lw1 := x1.1
      have lw2 := s2.1
      have lw3 := x3.1
      have hXn := hX.1
      have blk : ∀ {c}, blkOf u = some c → S.nx ≤ c ∧ c < X.nx := fun hc => ⟨(gw.blk hc).1, (gw.blk hc).2.1⟩
      have rlow : ∀ {c}, blkOf r = some c → X.nx ≤ c ∧ c < X2.nx := fun hc => ⟨by have := b2 _ hc; omega, sl_lowB (ofG i2) hc⟩
      refine ⟨⟨by omega, fun c hc => ?_⟩, .inr ⟨by simp only [↓stU, stD, reduceEqDiff, ↓reduceIte, p0], by simp only [↓stU, stD, reduceEqDiff, ↓reduceIte, p1], by simp only [↓stU, stD, reduceEqDiff, ↓reduceIte, p6], by omega, u', _, rfl, g4, ?_⟩⟩
      · rw [k4 c (by omega) (fun e => by have := (blk e).1; omega), s13.2 c (by omega)]
        exact hX.2 c hc
      · rw [take_snoc hi]
        refine rb.push hXn (by omega) (fun c hc _ hne => ?_) ?_ (fun c hc => ?_) (fun c hc => ?_)
        · rw [k4 c (by omega) hne]
          exact s13.2 c hc
        · refine sl_move ((ofG i2).same x3) (by omega) fun c hc => ?_
          have := rlow hc
          exact k4 c (by omega) (fun e => by have := (blk e).2; omega)
        · refine ⟨(rlow hc).1, fun e => ?_⟩
          rw [b4] at e
          cases e
          have := rlow hc
          omega
        · rw [b4] at hc
          cases hc
          omega
    clear p0 p1 p5 p6
    rintro o ⟨F, inr⟩ Z ⟨sZ, ⟨rfl, p4⟩ | ⟨rfl, q0, p0, p1, p6, hl, u', cs', p5, g4, rb4⟩⟩
    · exact ⟨sZ, .inl ⟨rfl, p4⟩⟩
    simp only at q0 p0 p1 p5 p6
    subst q0
    try simp only [↓stU, stD, reduceEqDiff, ↓reduceIte]
    refine wpc_reg ?_
    simp only [↓stU, stD, reduceEqDiff, ↓reduceIte, p6, wadd1 (a := i) (by omega)]
    refine ⟨k - 1, by omega, rfl, sZ, by simp only [↓stU, stD, reduceEqDiff, ↓reduceIte, p0], by simp only [↓stU, stD, reduceEqDiff, ↓reduceIte, p1], i + 1, u', cs', by omega, fun j hj => ?_, by simp only [↓stU, stD, reduceEqDiff, ↓reduceIte, p5], by simp only [↓stU, stD, reduceEqDiff, ↓reduceIte], g4, rb4⟩
    by_cases e : j = i
    · rw [e]; exact hl
    · exact hsm j (by omega)
  rintro o ⟨F, inr⟩ X ⟨hX, ⟨rfl, p4⟩ | ⟨rfl, q0, p0, p1, hsm, u, p5, ow⟩⟩
  · simp only at p4
    simp only [↓stU, stD, reduceEqDiff, ↓reduceIte, p4]
    exact hX
  simp only at q0 p0 p1 p5
  subst q0
  try simp only [↓stU, stD, reduceEqDiff, ↓reduceIte]
  refine wsr ?_
  simp only [↓stU, stD, reduceEqDiff, ↓reduceIte, p1, p5]
  refine wpo_call ?_
  try simp only [↓stU, stD, reduceEqDiff, ↓reduceIte, p1, p5]
  refine wpf_mono (standing_spec H ow) ?_
  rintro r1 Y ⟨hY, hr1⟩
  obtain ⟨w1, rfl, h1⟩ : ∃ w1, r1 = .tup [w1, .int .i64 (stE rows s)] ∧ ∃ L, IsSlG 3 RkE Y w1 L ∧ (stE rows s ≠ 0 → L = []) ∧ (stE rows s = 0 → ∀ R : List (Int × Int × Int), R.Perm (rks rows s) → R.Pairwise rkLt → L = R) := by
    rcases hr1 with ⟨h0, rfl⟩ | ⟨h0, w, L, rfl, hL, hu⟩
    · exact ⟨_, rfl, [], .inl ⟨rfl, .inl rfl⟩, fun _ => rfl, fun e => absurd e h0⟩
    · exact ⟨w, by rw [h0], L, hL, fun e => absurd h0 e, fun _ => hu⟩
  obtain ⟨L, hL, ha1, ha2⟩ := h1
  try simp only [↓stU, stD, reduceEqDiff, ↓reduceIte, extract2_0, extract2_1]
  refine wsr ?_
  simp only [↓stU, stD, reduceEqDiff, ↓reduceIte, p0, p1]
  refine wpo_call ?_
  try simp only [↓stU, stD, reduceEqDiff, ↓reduceIte, p0, p1]
  refine wpf_mono (xstanding_spec H (IsSlG.same (E := SlE) firm_sl h (hX.trans hY))) ?_
  rintro r2 Z ⟨hZ, hr2⟩
  obtain ⟨w2, rfl, hL2, hl20⟩ : ∃ w2, r2 = .tup [w2, .int .i64 (stE rows s)] ∧ IsSlG 3 RkE Z w2 L ∧ L.length ≤ 20 := by
    rcases hr2 with ⟨h0, rfl⟩ | ⟨h0, w, R, rfl, hR, q1, q2⟩
    · rw [ha1 h0]
      exact ⟨_, rfl, .inl ⟨rfl, .inl rfl⟩, by simp⟩
    · have := ha2 h0 R q1 q2
      subst this
      refine ⟨w, by rw [h0], hR, ?_⟩
      rw [q1.length_eq]
      have := (stE_zero h0).1
      simpa [rks] using this
  try simp only [↓stU, stD, reduceEqDiff, ↓reduceIte, extract2_0, extract2_1]
  refine wsr ?_
  try simp only [↓stU, stD, reduceEqDiff, ↓reduceIte]
  refine wpo_call ?_
  try simp only [↓stU, stD, reduceEqDiff, ↓reduceIte]
  refine wpf_mono (sameRanks_spec H (IsSlG.same (E := RkE) firm_rk hL hZ) hL2 (by omega)) ?_
  rintro _ W ⟨rfl, hW⟩
  simp only [↓stU, stD, reduceEqDiff, ↓reduceIte, decide_true, p0, p5]
  refine wpo_call ?_
  try simp only [↓stU, stD, reduceEqDiff, ↓reduceIte, p0, p5]
  have hXW := hY.trans (hZ.trans hW)
  refine wpf_mono (alikeL_spec H (IsSlG.same (E := SlE) firm_sl ow hXW) (IsSlG.same (E := SlE) firm_sl h (hX.trans hXW)) (by omega) (fun x hx => by have := hsm x hx; omega)) ?_
  rintro _ V ⟨rfl, hV⟩
  try simp only [↓stU, stD, reduceEqDiff, ↓reduceIte, decide_true]
  refine wpo_call ?_
  try simp only [↓stU, stD, reduceEqDiff, ↓reduceIte]
  refine wpf_mono (hAw _) ?_
  rintro _ U ⟨rfl, hU⟩
  try simp only [↓stU, stD, reduceEqDiff, ↓reduceIte, decide_true]
  refine wpc_ret ?_
  try simp only [↓stU, stD, reduceEqDiff, ↓reduceIte, decide_true]
  exact hX.trans (hXW.trans (hV.trans hU))
end Go.Ev.Gl

namespace Go.Ev.Gl

/-! ## Lists of lists as an argument -/
section
variable {P : Program} {σ : Env} {S : St} {w : World}
theorem arg_lists {t : TypeId} {H : Type} {enc : TypeId × Value → H} {base : Nat} {spare : Nat → Bool} {held : Bool} {fuel : Nat} {v : Value} {x : DataW H × List MemPlace} (hR : Rep P σ S w) (hn : NoOwn S) (hf : Fresh S) (hG : P.globals.size ≤ S.nx) (hL : Lays P t (SlOf 1 (EInts .i64))) (h : DataW.trod enc P w base spare held fuel t v.cells.toList = some x) (hv : v.cells.toList = [v]) (hW : ∀ n ∈ DataW.weights P t x.1, n ≤ 140737488355328) :
    ∃ σ' S' a, ∃ L : List (List Int), Added P σ S w σ' S' ∧ Rv P σ' a v ∧ IsSlG 1 SlE S' a L ∧ S.nx ≤ S'.nx := by
  obtain ⟨σ', S', avs, l, hA, hr, h1, hE, hnx⟩ := hL H enc σ S w base spare held fuel _ x hR hn hf hG h hW
  obtain ⟨a, rfl, i1⟩ := SlOf.is hE
  rw [hv] at hr
  obtain ⟨_, _, h2, h3, h4⟩ := Rvs_cons.1 hr
  cases h2
  exact ⟨σ', S', a, l.map id, hA, h3, IsSlG.conv (fun e x h => ints_is h) i1, hnx⟩
theorem lays_lists {tl ts e : TypeId} (hl : P.underlying tl = some (.slice ts)) (hs : P.underlying ts = some (.slice e)) (he : P.underlying e = some (.int .i64)) (ce : P.cellsOf e = 1) (cs : P.cellsOf ts = 1) (be : 8 ≤ P.bytesOf e) (bs : 8 ≤ P.bytesOf ts) : Lays P tl (SlOf 1 (EInts .i64)) :=
  lays_slice hl cs (by decide) (by omega) (lays_ints hs he ce be) firm_ints
end
end Go.Ev.Gl
