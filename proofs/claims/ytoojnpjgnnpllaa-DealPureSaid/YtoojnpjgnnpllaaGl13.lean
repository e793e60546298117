/- Contracts (13): rational numbers, the statements' tools, the law. -/
import Derived.Test.YtoojnpjgnnpllaaGl12
open Nat (reduceEqDiff reduceAdd)
set_option maxHeartbeats 4000000
set_option linter.unusedSimpArgs false
set_option linter.unusedVariables false
namespace Go.Ev.Gl
variable {fns : T AFn}

/-! ## Tables: shares, plain -/
def radM (b : Int) : Nat := 2 ^ b.toNat
theorem radM_bd {b : Int} (h : b ≤ 30) : 1 ≤ radM b ∧ radM b ≤ 1073741824 := by
  unfold radM
  refine ⟨Nat.one_le_two_pow, ?_⟩
  have : 2 ^ b.toNat ≤ 2 ^ 30 := Nat.pow_le_pow_right (by decide) (by omega)
  exact Nat.le_trans this (by decide)
theorem bin_shl1 (e : EqT) {b : Int} (h1 : 0 ≤ b) (h2 : b ≤ 30) : binV .shl e (.int .i64 1) (.int .i64 b) = some (.int .i64 ((radM b : Nat) : Int)) := by
  obtain ⟨n, rfl⟩ : ∃ n : Nat, b = (n : Int) := ⟨b.toNat, by omega⟩
  have hb := radM_bd h2
  unfold radM at hb ⊢
  rw [Int.toNat_natCast] at hb ⊢
  show intsBin .shl .i64 (Int.ofNat 1) .i64 (Int.ofNat n) = _
  unfold intsBin
  rw [show isShift .shl = true from rfl, bsel_true]
  show shiftN .shl .i64 (Int.ofNat 1) n = _
  unfold shiftN
  rw [show Nat.ble n IntKind.i64.bits = true from Nat.ble_eq_true_of_le (by show n ≤ 64; omega), bsel_true]
  show some (AV.int .i64 (iMulV .i64 (Int.ofNat 1) (Int.ofNat (2 ^ n)))) = _
  rw [iMulV_eq]
  show some (AV.int .i64 (IntKind.i64.wrap (1 * ((2 ^ n : Nat) : Int)))) = _
  rw [Int.one_mul]
  generalize 2 ^ n = M at *
  rw [wrap_i64 (by omega) (by omega)]
/-- the error of a row of shares -/
def shE (M : Nat) (l : List Int) : Int := if l.length < 1 ∨ 10 < l.length then 3 else if ∃ x ∈ l, x < 0 ∨ (M : Int) < x then 2 else if l.sum ≠ (M : Int) then 14 else 0
def shsE (M : Nat) : List (List Int) → Int
  | [] => 0
  | l :: r => if shE M l ≠ 0 then shE M l else shsE M r
/-- the error of a table -/
def tabE (b : Int) (L : List (List Int)) : Int := if b < 1 ∨ 30 < b then 2 else if 200 < L.length then 4 else shsE (radM b) L
noncomputable def fitE (g : PGame) (b : Int) (L : List (List Int)) : Int := if formE g ≠ 0 then formE g else if tabE b L ≠ 0 then tabE b L else if L.length ≠ g.infos.length then 10 else if ∃ i, i < L.length ∧ (((L.getD i []).length : Nat) : Int) ≠ (infoAt g (i : Int)).actions then 10 else 0
theorem shE_zero {M : Nat} {l : List Int} (h : shE M l = 0) : (1 ≤ l.length ∧ l.length ≤ 10) ∧ (∀ x ∈ l, 0 ≤ x ∧ x ≤ (M : Int)) ∧ l.sum = (M : Int) := by
  unfold shE at h
  split at h
  · cases h
  split at h
  · cases h
  rename_i h1 h2
  split at h
  · cases h
  rename_i h3
  refine ⟨by omega, fun x hx => ?_, Decidable.not_not.1 h3⟩
  have : ¬ (x < 0 ∨ (M : Int) < x) := fun h => h2 ⟨x, hx, h⟩
  omega
theorem shsE_zero {M : Nat} : ∀ {L : List (List Int)}, shsE M L = 0 → ∀ l ∈ L, shE M l = 0
  | [], _, l, hl => by cases hl
  | x :: r, h, l, hl => by
    simp only [shsE] at h
    by_cases e : shE M x = 0
    · rw [if_neg (fun h => h e)] at h
      rcases List.mem_cons.1 hl with rfl | h1
      · exact e
      · exact shsE_zero h l h1
    · rw [if_pos e] at h; exact absurd h e
/-- what a table that fits has -/
structure GoodT (g : PGame) (b : Int) (L : List (List Int)) : Prop where
  b1 : 1 ≤ b
  b2 : b ≤ 30
  len : L.length = g.infos.length
  row : ∀ i, i < L.length → (((L.getD i []).length : Nat) : Int) = (infoAt g (i : Int)).actions
  shs : ∀ i, i < L.length → SmallW (L.getD i []) ∧ (L.getD i []).sum = ((radM b : Nat) : Int)
theorem smallW_of {M : Nat} {l : List Int} (hM : M ≤ 1073741824) (h : shE M l = 0) : SmallW l ∧ l.sum = (M : Int) := by
  obtain ⟨h1, h2, h3⟩ := shE_zero h
  exact ⟨⟨by omega, fun x hx => by have := h2 x hx; omega⟩, h3⟩
theorem goodT_of {g : PGame} {b : Int} {L : List (List Int)} (h : fitE g b L = 0) : formE g = 0 ∧ GoodT g b L := by
  unfold fitE at h
  split at h
  · rename_i h1; exact absurd h h1
  rename_i h1
  split at h
  · rename_i h2; exact absurd h h2
  rename_i h2
  split at h
  · cases h
  rename_i h3
  split at h
  · cases h
  rename_i h4
  have h2 := Decidable.not_not.1 h2
  unfold tabE at h2
  split at h2
  · cases h2
  rename_i h5
  split at h2
  · cases h2
  have hb := radM_bd (b := b) (by omega)
  refine ⟨Decidable.not_not.1 h1, by omega, by omega, Decidable.not_not.1 h3, fun i hi => Decidable.not_not.1 fun h => h4 ⟨i, hi, h⟩, fun i hi => ?_⟩
  have hm : L.getD i [] ∈ L := by rw [List.getD_eq_getElem?_getD, List.getElem?_eq_getElem hi]; exact List.getElem_mem hi
  exact smallW_of hb.2 (shsE_zero h2 _ hm)
/-! ## Shares that decide -/
def decS (b : Int) (v : AV) (L : List (List Int)) : Dec := ⟨119, .agg [.int .i64 b, v], fun _ => radM b, fun x d => pickN (L.getD x.info.toNat []) (d : Int)⟩
section
variable {h : Ev.T AB} {b : Nat} {x0 x1 : AV} {o : Bool} {s : Nat}
theorem lg2_0 (hb : h.get b = some (.cells [x0, x1] o s)) : qLdV (.ptr b (0 + 0)) false 1 h = some x0 := ldc hb rfl
theorem lg2_1 (hb : h.get b = some (.cells [x0, x1] o s)) : qLdV (.ptr b (0 + 1)) false 1 h = some x1 := ldc hb rfl
theorem lg2_a (hb : h.get b = some (.cells [x0, x1] o s)) : qLdV (.ptr b 0) true 2 h = some (.agg [x0, x1]) := ldall hb rfl
end
theorem get_some {L : List (List Int)} {i : Nat} (h : i < L.length) : L[i]? = some (L.getD i []) := by
  rw [List.getD_eq_getElem?_getD, List.getElem?_eq_getElem h]; rfl
theorem decS_h {g : PGame} {S : St} {v : AV} {b : Int} {L : List (List Int)} (H : Has fns) (G : GoodK g) (hv : IsSlG 1 SlE S v L) (T : GoodT g b L) {i : Nat} (hi : i < g.nodes.length) (hk : (nodeAt g i).kind = 2) : DecH fns S (decS b v L) (nodeAt g i) := by
  obtain ⟨a1, a2, a3⟩ := G.good.inf i hi hk
  have hb := radM_bd T.b2
  have hb1 := T.b1
  have hb2 := T.b2
  have hl := T.len
  have hlt : (nodeAt g i).info.toNat < L.length := by omega
  have hr := T.row _ hlt
  rw [show (((nodeAt g i).info.toNat : Nat) : Int) = (nodeAt g i).info by omega, a3] at hr
  obtain ⟨hs, hsum⟩ := T.shs _ hlt
  refine ⟨agg2_self (same_int _ _) (IsSlG.self hv), by show 0 < radM b; omega, by show radM b ≤ _; omega, fun d hd => ?_, ⟨_, rfl, fun X cs hX hx => wpf_first ?_⟩, ⟨_, rfl, fun X cs d hX hx hd => wpf_first ?_⟩⟩
  · have hd : d < radM b := hd
    show pickN (L.getD (nodeAt g i).info.toNat []) (d : Int) < _
    have := pickN_lt (l := L.getD (nodeAt g i).info.toNat []) (d := (d : Int)) (by omega) (by omega)
    omega
  · show wpf fns _ [.agg [.int .i64 b, v], .agg cs] X fun r X' => r = .int .i64 ((radM b : Nat) : Int) ∧ Same X X'
    refine wpf_fn H.f204 (by simp) ?_
    simp only [↓sU, sD, reduceEqDiff, ↓reduceIte, reduceAdd]
    refine wsr ?_
    refine wpo_box (cs := [.int .i64 b, v]) (by simp only [↓sU, sD, reduceEqDiff, ↓reduceIte, reduceAdd]; exact cells_agg _) ?_
    intro S0 s0 n0 c0
    refine wpo_box (cs := cs) (by simp only [↓sU, sD, reduceEqDiff, ↓reduceIte, reduceAdd]; exact cells_agg _) ?_
    intro S1 s1 n1 c1
    have c0' := (s1.2 _ (by omega)).trans c0
    have hsh := bin_shl1 (.p .int) (b := b) (by omega) hb2
    simp only [↓sU, sD, reduceEqDiff, ↓reduceIte, reduceAdd]
    refine wsr ?_
    simp only [↓sU, sD, reduceEqDiff, ↓reduceIte, reduceAdd, evQ_faddr, faddr_ptr, lg2_0 c0', hsh]
    refine wpc_ret ?_
    simp only [↓sU, sD, reduceEqDiff, ↓reduceIte, reduceAdd]
    exact s0.trans s1
  · have hd : d < radM b := hd
    show wpf fns _ [.agg [.int .i64 b, v], .agg cs, .int .i64 ((d : Nat) : Int)] X fun r X' => r = .int .i64 ((pickN (L.getD (nodeAt g i).info.toNat []) (d : Int) : Nat) : Int) ∧ Same X X'
    obtain ⟨xa, xw, xp, rfl, hxa, hxw, hxp⟩ := hx
    refine wpf_fn H.f203 (by simp) ?_
    simp only [↓sU, sD, reduceEqDiff, ↓reduceIte, reduceAdd]
    refine wsr ?_
    refine wpo_box (cs := [.int .i64 b, v]) (by simp only [↓sU, sD, reduceEqDiff, ↓reduceIte, reduceAdd]; exact cells_agg _) ?_
    intro S0 s0 n0 c0
    refine wpo_box (by simp only [↓sU, sD, reduceEqDiff, ↓reduceIte, reduceAdd]; exact cells_agg _) ?_
    intro S1 s1 n1 c1
    have c0' := (s1.2 _ (by omega)).trans c0
    have s01 := s0.trans s1
    have hni := natOf_nn (k := .i64) a1
    obtain ⟨e, br, qr, hia, lbr, _, ⟨a, rfl, hrow⟩, _, hlf⟩ := IsSlG.at (IsSlG.same (E := SlE) firm_sl hv (hX.trans s01)) (by decide) (get_some hlt)
    have hld := hlf 0 a rfl
    rw [Nat.add_zero] at hld
    simp only [↓sU, sD, reduceEqDiff, ↓reduceIte, reduceAdd]
    refine wsr ?_
    simp only [↓sU, sD, reduceEqDiff, ↓reduceIte, reduceAdd, evQ_faddr, faddr_ptr, lg2_1 c0', ld6_2 c1, hni, hia, hld]
    refine wpo_call ?_
    simp only [↓sU, sD, reduceEqDiff, ↓reduceIte, reduceAdd]
    refine wpf_mono (pick_spec H hrow hs (by omega) (by omega)) ?_
    rintro _ Y ⟨rfl, hY⟩
    try simp only [↓sU, sD, reduceEqDiff, ↓reduceIte, reduceAdd]
    refine wpc_ret ?_
    simp only [↓sU, sD, reduceEqDiff, ↓reduceIte, reduceAdd]
    exact s01.trans hY
end Go.Ev.Gl

namespace Go.Ev.Gl
variable {fns : T AFn}

/-! ## How many seeds a game has with a table, plain -/
def wM (M : Nat) (g : PGame) (i : Nat) : Nat := if (nodeAt g i).kind = 1 then (nodeAt g i).weights.sum.toNat else if (nodeAt g i).kind = 2 then M else 1
/-- the products of the radices above the nodes -/
structure ProdM (M : Nat) (g : PGame) (pr : Nat → Nat) : Prop where
  zero : pr 0 = 1
  kid : ∀ i, i < g.nodes.length → ∀ k, k < (nodeAt g i).next.length → pr ((nodeAt g i).next.getD k 0).toNat = pr i * wM M g i
theorem exists_prodM (M : Nat) {g : PGame} (G : GoodG g) : ∃ pr, ProdM M g pr := by
  have key : ∀ n : Nat, ∃ pr : Nat → Nat, pr 0 = 1 ∧ ∀ i, i < g.nodes.length → ∀ k, k < (nodeAt g i).next.length → (nodeAt g i).next.getD k 0 < (n : Int) → pr ((nodeAt g i).next.getD k 0).toNat = pr i * wM M g i := by
    intro n
    induction n with
    | zero => exact ⟨fun _ => 1, rfl, fun i hi k hk h => by have := (G.kids i hi k hk).1; omega⟩
    | succ n ih =>
      obtain ⟨pr, h0, h1⟩ := ih
      by_cases hn : 0 < n ∧ n < g.nodes.length
      · obtain ⟨q, k0, hq, hk0, he⟩ := parent_of G hn.1 hn.2
        refine ⟨fun j => if j = n then pr q * wM M g q else pr j, by simp only; rw [if_neg (by omega)]; exact h0, fun i hi k hk h => ?_⟩
        have hb := G.kids i hi k hk
        simp only
        by_cases e : (nodeAt g i).next.getD k 0 = (n : Int)
        · obtain ⟨rfl, rfl⟩ := G.only hi hk (by omega) hk0 (by rw [e, he])
          rw [e, Int.toNat_natCast, if_pos rfl, if_neg (by omega)]
        · rw [if_neg (by omega), if_neg (by omega)]
          exact h1 i hi k hk (by omega)
      · refine ⟨pr, h0, fun i hi k hk h => h1 i hi k hk ?_⟩
        have hb := G.kids i hi k hk
        omega
  obtain ⟨pr, h0, h1⟩ := key g.nodes.length
  exact ⟨pr, h0, fun i hi k hk => h1 i hi k hk (G.kids i hi k hk).2⟩
def spStep (M : Nat) (g : PGame) (pr : Nat → Nat) (o : Option Nat) (i : Nat) : Option Nat := o.bind fun z => if (nodeAt g i).kind = 3 then lcmO z (pr i) else if 1000000000000000 < pr i * wM M g i then none else some z
def spF (M : Nat) (g : PGame) (pr : Nat → Nat) (n : Nat) : Option Nat := (List.range n).foldl (spStep M g pr) (some 1)
section
variable {M : Nat} {g : PGame} {pr : Nat → Nat}
theorem spF_succ (n : Nat) : spF M g pr (n + 1) = spStep M g pr (spF M g pr n) n := by unfold spF; rw [List.range_succ, List.foldl_append]; rfl
theorem spF_none {n : Nat} (h : spF M g pr n = none) : ∀ {m : Nat}, n ≤ m → spF M g pr m = none
  | 0, hm => by
    obtain rfl : n = 0 := by omega
    exact h
  | m + 1, hm => by
    by_cases e : n = m + 1
    · rw [← e]; exact h
    · rw [spF_succ, spF_none h (m := m) (by omega)]; rfl
theorem wM_bd (hM : 1 ≤ M ∧ M ≤ 1073741824) (G : GoodK g) {i : Nat} (hi : i < g.nodes.length) : 0 < wM M g i ∧ wM M g i ≤ 1073741824000 := by
  unfold wM
  split
  · rename_i h; obtain ⟨h1, h2⟩ := G.small hi h; have := h1.all; omega
  · split
    · omega
    · omega
theorem ProdM.pos (P : ProdM M g pr) (hM : 1 ≤ M ∧ M ≤ 1073741824) (G : GoodK g) : ∀ {j : Nat}, j < g.nodes.length → 0 < pr j := by
  intro j
  induction j using Nat.strongRecOn with
  | ind j ih =>
    intro hj
    rcases Nat.eq_zero_or_pos j with h0 | h0
    · subst h0; rw [P.zero]; exact Nat.one_pos
    · obtain ⟨q, k, hq, hk, he⟩ := parent_of G.good h0 hj
      have := P.kid q (by omega) k hk
      rw [he, Int.toNat_natCast] at this
      rw [this]
      exact Nat.mul_pos (ih q hq (by omega)) (wM_bd hM G (by omega)).1
/-- what is known as long as nothing was too great -/
theorem spF_some (P : ProdM M g pr) (hM : 1 ≤ M ∧ M ≤ 1073741824) (G : GoodK g) : ∀ {n z : Nat}, n ≤ g.nodes.length → spF M g pr n = some z → 0 < z ∧ z ≤ 1000000000000000 ∧ (∀ j, j < n → (nodeAt g j).kind ≠ 3 → pr j * wM M g j ≤ 1000000000000000)
  | 0, z, _, h => by
    have : some 1 = some z := h
    cases this
    exact ⟨by omega, by omega, fun j hj => by omega⟩
  | n + 1, z, hn, h => by
    rw [spF_succ] at h
    cases h1 : spF M g pr n with
    | none => rw [h1] at h; cases h
    | some y =>
      obtain ⟨a, b, c⟩ := spF_some P hM G (n := n) (by omega) h1
      rw [h1] at h
      have h : (if (nodeAt g n).kind = 3 then lcmO y (pr n) else if 1000000000000000 < pr n * wM M g n then none else some y) = some z := h
      split at h
      · rename_i h3
        obtain ⟨d, e⟩ := lcmO_some h a (P.pos hM G (by omega))
        refine ⟨d, e, fun j hj hk => ?_⟩
        by_cases hjn : j = n
        · subst hjn; exact absurd h3 hk
        · exact c j (by omega) hk
      · split at h
        · cases h
        · rename_i h3 h4
          cases h
          refine ⟨a, b, fun j hj hk => ?_⟩
          by_cases hjn : j = n
          · subst hjn; omega
          · exact c j (by omega) hk
theorem ProdM.le (P : ProdM M g pr) (G : GoodK g) {n : Nat} (hc : ∀ j, j < n → (nodeAt g j).kind ≠ 3 → pr j * wM M g j ≤ 1000000000000000) : ∀ {j : Nat}, j ≤ n → j < g.nodes.length → pr j ≤ 1000000000000000 := by
  intro j hjn hj
  rcases Nat.eq_zero_or_pos j with h0 | h0
  · subst h0; rw [P.zero]; omega
  · obtain ⟨q, k, hq, hk, he⟩ := parent_of G.good h0 hj
    have := P.kid q (by omega) k hk
    rw [he, Int.toNat_natCast] at this
    rw [this]
    exact hc q (by omega) fun h3 => by rw [G.fin q (by omega) h3] at hk; exact absurd hk (Nat.not_lt_zero _)
end
/-- the number, the error -/
def spN (M : Nat) (g : PGame) (pr : Nat → Nat) : Int := match spF M g pr g.nodes.length with | none => 0 | some z => (z : Int)
def spR (M : Nat) (g : PGame) (pr : Nat → Nat) : Int := match spF M g pr g.nodes.length with | none => 5 | some _ => 0
end Go.Ev.Gl

namespace Go.Ev.Gl
variable {fns : T AFn}

/-! ## The program's spread -/
theorem Below.atz {g : PGame} {pr : Nat → Nat} {R : List Int} {n j : Nat} (h : Below g pr R n j) (G : GoodK g) (h1 : pr 0 = 1) (hn : n < g.nodes.length) : R.getD n 0 = ((pr n : Nat) : Int) := by
  rcases Nat.eq_zero_or_pos n with h0 | h0
  · subst h0; rw [h.2.1, h1]; rfl
  · obtain ⟨q, k, hq, hk, he⟩ := parent_of G.good h0 hn
    have := h.2.2 q (by omega) k hk (.inl hq)
    rw [he, Int.toNat_natCast] at this
    exact this
def SpI (S : St) (pb : Nat) (nv dv : AV) (M : Nat) (g : PGame) (pr : Nat → Nat) (k : Nat) (A : Act') (X : St) : Prop := A.inr = false ∧ Same S X ∧ pb < X.nx ∧ ∃ i z R, i + k = g.nodes.length ∧ spF M g pr i = some z ∧ Below g pr R i 0 ∧ X.h.get pb = some (.cells (cells64 R) false 0) ∧ tmpV 1 A.F = dv ∧ tmpV 6 A.F = .sl pb 0 g.nodes.length g.nodes.length false ∧ tmpV 7 A.F = .int .i64 ((z : Nat) : Int) ∧ tmpV 21 A.F = nv ∧ tmpV 22 A.F = .int .i64 ((g.nodes.length : Nat) : Int) ∧ tmpV 23 A.F = .int .i64 (i : Int)
def SpK (S : St) (pb : Nat) (nv dv xa : AV) (g : PGame) (pr : Nat → Nat) (i w z : Nat) (k : Nat) (A : Act') (X : St) : Prop := A.inr = false ∧ Same S X ∧ pb < X.nx ∧ ∃ j R, j + k = (nodeAt g i).next.length ∧ Below g pr R i j ∧ X.h.get pb = some (.cells (cells64 R) false 0) ∧ tmpV 1 A.F = dv ∧ tmpV 6 A.F = .sl pb 0 g.nodes.length g.nodes.length false ∧ tmpV 7 A.F = .int .i64 ((z : Nat) : Int) ∧ tmpV 8 A.F = .int .i64 (i : Int) ∧ tmpV 11 A.F = .int .i64 ((w : Nat) : Int) ∧ tmpV 21 A.F = nv ∧ tmpV 22 A.F = .int .i64 ((g.nodes.length : Nat) : Int) ∧ tmpV 23 A.F = .int .i64 (i : Int) ∧ tmpV 65 A.F = xa ∧ tmpV 66 A.F = .int .i64 (((nodeAt g i).next.length : Nat) : Int) ∧ tmpV 67 A.F = .int .i64 (j : Int)
set_option maxHeartbeats 8000000 in
theorem spread_spec {S : St} {nv iv : AV} {M : Nat} {g : PGame} {D : Dec} {pr : Nat → Nat} (H : Has fns) (G : GoodK g) (hn : IsSlG 6 NodeE S nv g.nodes) (hD : ∀ i, i < g.nodes.length → (nodeAt g i).kind = 2 → DecH fns S D (nodeAt g i)) (hr : ∀ x, D.rad x = M) (hM : 1 ≤ M ∧ M ≤ 1073741824) (P : ProdM M g pr) :
    wpf fns (.fn 80 [] []) [.agg [.int .i64 g.players, nv, iv], .iface D.ty D.val] S fun r S' => Same S S' ∧ r = .tup [.int .i64 (spN M g pr), .int .i64 (spR M g pr)] := by
  have hN1 := G.good.n1
  have hN2 := G.good.n2
  refine wpf_fn H.f80 (by simp) ?_
  simp only [↓sU, sD, reduceEqDiff, ↓reduceIte, reduceAdd]
  refine wsr ?_
  refine wpo_box (cs := [.int .i64 g.players, nv, iv]) rfl ?_
  intro S1 s1 n1 c1
  simp only [↓sU, sD, reduceEqDiff, ↓reduceIte, reduceAdd]
  refine wsr ?_
  simp only [↓stU, stD, reduceEqDiff, ↓reduceIte, reduceAdd, evQ_faddr, faddr_ptr, lg3_1 c1, hn.len]
  refine wpo_al (evA_mk (n := g.nodes.length) (by simp only [↓stU, stD, reduceEqDiff, ↓reduceIte, reduceAdd, natOf_cast]) (by simp only [↓stU, stD, reduceEqDiff, ↓reduceIte, reduceAdd, natOf_cast]) (by unfold room; omega) (by unfold room; omega)) ?_
  intro Y y1 m1 d1
  rw [zeros64] at d1
  simp only [↓stU, stD, reduceEqDiff, ↓reduceIte, reduceAdd]
  have sY := s1.trans y1
  have cY := (y1.2 _ (show S.nx < S1.nx by omega)).trans c1
  have hi0 := row_ia (b := S1.nx) (o := false) hN1
  refine wsr ?_
  simp only [↓sU, sD, reduceEqDiff, ↓reduceIte, reduceAdd, nat0, hi0]
  refine wpo_x (fun call => by simp only [↓sU, sD, reduceEqDiff, ↓reduceIte, reduceAdd, evX_st, cells_int]; exact st64 (S := Y) d1 (by rw [List.length_replicate]; exact hN1)) ?_
  simp only [↓sU, sD, reduceEqDiff, ↓reduceIte, reduceAdd]
  refine wsr ?_
  simp only [↓sU, sD, reduceEqDiff, ↓reduceIte, reduceAdd]
  have hB0 : Below g pr ((List.replicate g.nodes.length 0).set 0 1) 0 0 := ⟨by simp, by rw [getD_set0 (by rw [List.length_replicate]; exact hN1), if_pos rfl], fun q hq k hk h => by omega⟩
  refine wpc_seq (wpc_mono (Q := fun o A' Z => (o = .normal ∧ SpI S S1.nx nv (.iface D.ty D.val) M g pr 0 A' Z) ∨ (o = .ret ∧ Same S Z ∧ spF M g pr g.nodes.length = none ∧ tmpV 4 A'.F = .int .i64 0 ∧ tmpV 5 A'.F = .int .i64 5)) (wpc_seq (wpc_reg ?_)) ?_)
  · have lY : S1.nx < Y.nx := by omega
    have sY2 : Same S ⟨Y.h.set S1.nx (some (.cells (cells64 ((List.replicate g.nodes.length 0).set 0 1)) false 0)), Y.nx⟩ := sY.put s1.1 _
    have cY2 : (Y.h.set S1.nx (some (.cells (cells64 ((List.replicate g.nodes.length 0).set 0 1)) false 0))).get S.nx = some (.cells [.int .i64 g.players, nv, iv] false 0) := by rw [T.get_set, if_neg (by omega)]; exact cY
    simp only [↓sU, sD, reduceEqDiff, ↓reduceIte, reduceAdd, evQ_faddr, faddr_ptr, lg3_1 cY2, hn.len, Int.ofNat_eq_natCast]
    refine wpc_block (wpc_loop (SpI S S1.nx nv (.iface D.ty D.val) M g pr) ?_ g.nodes.length _ _ ⟨rfl, sY2, lY, 0, 1, _, by omega, rfl, hB0, by simp only; rw [T.get_set, if_pos rfl], by simp only [↓sU, sD, reduceEqDiff, ↓reduceIte, reduceAdd], by first | (simp only [↓sU, sD, reduceEqDiff, ↓reduceIte, reduceAdd]; done) | (simp only [↓sU, sD, reduceEqDiff, ↓reduceIte, reduceAdd]; rfl), by simp only [↓sU, sD, reduceEqDiff, ↓reduceIte, reduceAdd]; try rfl, by simp only [↓sU, sD, reduceEqDiff, ↓reduceIte, reduceAdd], by simp only [↓sU, sD, reduceEqDiff, ↓reduceIte, reduceAdd]; try rfl, by simp only [↓sU, sD, reduceEqDiff, ↓reduceIte, reduceAdd]; try rfl⟩)
    clear hB0 sY2 lY cY d1 y1 m1 sY cY2
    rintro k ⟨F, inr⟩ V ⟨q0, hV, lpV, i, z, R, hik, hz, hBl, gV, p1, p6, p7, p21, p22, p23⟩
    simp only at q0 p1 p6 p7 p21 p22 p23
    subst q0
    refine wsr ?_
    simp only [↓sU, sD, reduceEqDiff, ↓reduceIte, reduceAdd, p22, p23]
    by_cases hlt : i < g.nodes.length
    rotate_left
    · refine wpc_seq (wpc_non (by simp only [↓sU, sD, reduceEqDiff, ↓reduceIte, reduceAdd, decide_eq_false (show ¬ (i : Int) < ((g.nodes.length : Nat) : Int) by omega)]) (wpc_exit ?_))
      simp only [↓sU, sD, reduceEqDiff, ↓reduceIte, reduceAdd]
      have hk0 : k = 0 := by omega
      subst hk0
      exact .inl ⟨rfl, hV, lpV, i, z, R, hik, hz, hBl, gV, by simp only [↓sU, sD, reduceEqDiff, ↓reduceIte, reduceAdd, p1], by simp only [↓sU, sD, reduceEqDiff, ↓reduceIte, reduceAdd, p6], by simp only [↓sU, sD, reduceEqDiff, ↓reduceIte, reduceAdd, p7], by simp only [↓sU, sD, reduceEqDiff, ↓reduceIte, reduceAdd, p21], by simp only [↓sU, sD, reduceEqDiff, ↓reduceIte, reduceAdd, p22], by simp only [↓sU, sD, reduceEqDiff, ↓reduceIte, reduceAdd, p23]⟩
    refine wpc_seq (wpc_yes (by simp only [↓sU, sD, reduceEqDiff, ↓reduceIte, reduceAdd, decide_eq_true (show (i : Int) < ((g.nodes.length : Nat) : Int) by omega)]) (wpc_skip ?_))
    try simp only [↓sU, sD, reduceEqDiff, ↓reduceIte, reduceAdd]
    obtain ⟨hz0, hz1, hzc⟩ := spF_some P hM G (by omega) hz
    have hp1 := P.pos hM G hlt
    have hp2 := P.le G hzc (Nat.le_refl i) hlt
    obtain ⟨_, bx, qx, hiax, hbx, _, ⟨xa, xw, xp, rfl, hxa, hxw, hxp⟩, hldx, _⟩ := IsSlG.at hn (by decide) (nodeAt_some hlt)
    rw [← ldSame hV hbx] at hldx
    have w0 : IntKind.i64.wrap ((i : Int) + 1) = ((i + 1 : Nat) : Int) := by rw [wrap_i64 (by omega) (by omega)]; omega
    have hiR := row_ia (b := S1.nx) (o := false) hlt
    refine wpc_seq (wpc_mono (Q := fun o A' Z => (o = .normal ∧ A'.inr = false ∧ Same S Z ∧ S1.nx < Z.nx ∧ ∃ z R, spF M g pr (i + 1) = some z ∧ Below g pr R (i + 1) 0 ∧ Z.h.get S1.nx = some (.cells (cells64 R) false 0) ∧ tmpV 1 A'.F = .iface D.ty D.val ∧ tmpV 6 A'.F = .sl S1.nx 0 g.nodes.length g.nodes.length false ∧ tmpV 7 A'.F = .int .i64 ((z : Nat) : Int) ∧ tmpV 21 A'.F = nv ∧ tmpV 22 A'.F = .int .i64 ((g.nodes.length : Nat) : Int) ∧ tmpV 23 A'.F = .int .i64 (i : Int)) ∨ (o = .ret ∧ Same S Z ∧ spF M g pr g.nodes.length = none ∧ tmpV 4 A'.F = .int .i64 0 ∧ tmpV 5 A'.F = .int .i64 5)) (wpc_block (wpc_seq (wpc_reg ?_))) ?_)
    rotate_left
    · clear p1 p6 p7 p21 p22 p23
      rintro o ⟨F, inr⟩ Z (⟨rfl, q0, hZ, lpZ, z', R', hz', hB', gZ, p1, p6, p7, p21, p22, p23⟩ | ⟨rfl, h⟩)
      rotate_left
      · simp only [↓sU, sD, reduceEqDiff, ↓reduceIte, reduceAdd]
        exact .inr h
      simp only at q0 p1 p6 p7 p21 p22 p23
      subst q0
      try simp only [↓sU, sD, reduceEqDiff, ↓reduceIte, reduceAdd]
      refine wpc_reg ?_
      simp only [↓sU, sD, reduceEqDiff, ↓reduceIte, reduceAdd, p23, w0]
      exact ⟨k - 1, by omega, rfl, hZ, lpZ, i + 1, z', R', by omega, hz', hB', gZ, by simp only [↓sU, sD, reduceEqDiff, ↓reduceIte, reduceAdd, p1], by simp only [↓sU, sD, reduceEqDiff, ↓reduceIte, reduceAdd, p6], by simp only [↓sU, sD, reduceEqDiff, ↓reduceIte, reduceAdd, p7], by simp only [↓sU, sD, reduceEqDiff, ↓reduceIte, reduceAdd, p21], by simp only [↓sU, sD, reduceEqDiff, ↓reduceIte, reduceAdd, p22], by simp only [↓sU, sD, reduceEqDiff, ↓reduceIte, reduceAdd]⟩
    simp only [↓stU, stD, reduceEqDiff, ↓reduceIte, reduceAdd, p21, p23, natOf_cast, hiax, hldx]
    refine wpo_alloc ?_
    intro W1 v1 k1 h1
    simp only [↓stU, stD, reduceEqDiff, ↓reduceIte, reduceAdd]
    refine wpo_st (b := V.nx) (by simp only [↓stU, stD, reduceEqDiff, ↓reduceIte, reduceAdd]) (by simp only [↓stU, stD, reduceEqDiff, ↓reduceIte, reduceAdd]; exact cells_agg _) h1 rfl rfl ?_
    intro W v2 k2 h2
    simp only [↓stU, stD, reduceEqDiff, ↓reduceIte, reduceAdd]
    have sVW : Same V W := v2.same v1 (Nat.le_refl _)
    have gW := (sVW.2 _ lpV).trans gV
    have hlRW := ld64 gW (show i < R.length by rw [hBl.1]; exact hlt)
    rw [hBl.atz G P.zero hlt] at hlRW
    have sSW := hV.trans sVW
    have lxW : V.nx < W.nx := by omega
    have lpW : S1.nx < W.nx := Nat.lt_of_lt_of_le lpV sVW.1
    -- an end
    refine wpc_seq (wpc_mono (Q := fun o A' Z => (o = .normal ∧ (nodeAt g i).kind ≠ 3 ∧ A'.inr = false ∧ Z = W ∧ tmpV 1 A'.F = .iface D.ty D.val ∧ tmpV 6 A'.F = .sl S1.nx 0 g.nodes.length g.nodes.length false ∧ tmpV 7 A'.F = .int .i64 ((z : Nat) : Int) ∧ tmpV 8 A'.F = .int .i64 (i : Int) ∧ tmpV 9 A'.F = .ptr V.nx 0 ∧ tmpV 21 A'.F = nv ∧ tmpV 22 A'.F = .int .i64 ((g.nodes.length : Nat) : Int) ∧ tmpV 23 A'.F = .int .i64 (i : Int)) ∨ (o = .exit 1 ∧ A'.inr = false ∧ Same W Z ∧ (nodeAt g i).kind = 3 ∧ ∃ z, spF M g pr (i + 1) = some z ∧ tmpV 1 A'.F = .iface D.ty D.val ∧ tmpV 6 A'.F = .sl S1.nx 0 g.nodes.length g.nodes.length false ∧ tmpV 7 A'.F = .int .i64 ((z : Nat) : Int) ∧ tmpV 21 A'.F = nv ∧ tmpV 22 A'.F = .int .i64 ((g.nodes.length : Nat) : Int) ∧ tmpV 23 A'.F = .int .i64 (i : Int)) ∨ (o = .ret ∧ Same S Z ∧ spF M g pr g.nodes.length = none ∧ tmpV 4 A'.F = .int .i64 0 ∧ tmpV 5 A'.F = .int .i64 5)) (wpc_seq (wpc_reg ?_)) ?_)
    · simp only [↓sU, sD, reduceEqDiff, ↓reduceIte, reduceAdd, evQ_faddr, faddr_ptr, ld6_0 h2]
      by_cases hk3 : (nodeAt g i).kind = 3
      rotate_left
      · refine wpc_non (by simp only [↓sU, sD, reduceEqDiff, ↓reduceIte, reduceAdd, decide_eq_false hk3]) (wpc_skip ?_)
        simp only [↓sU, sD, reduceEqDiff, ↓reduceIte, reduceAdd, p1, p6, p7, p21, p22, p23]
        exact .inl hk3
      have hst : spF M g pr (i + 1) = lcmO z (pr i) := by
        rw [spF_succ, hz]
        show (if (nodeAt g i).kind = 3 then _ else _) = _
        rw [if_pos hk3]
      have hg : 0 < Nat.gcd z (pr i) := Nat.gcd_pos_of_pos_left _ hz0
      refine wpc_yes (by simp only [↓sU, sD, reduceEqDiff, ↓reduceIte, reduceAdd, decide_eq_true hk3]) ?_
      refine wsr ?_
      simp only [↓sU, sD, reduceEqDiff, ↓reduceIte, reduceAdd, p6, p7, natOf_cast, hiR, hlRW]
      refine wpo_call ?_
      simp only [↓sU, sD, reduceEqDiff, ↓reduceIte, reduceAdd]
      refine wpf_mono (gcd34_spec H (show z ≤ 9223372036854775807 by omega) (show pr i ≤ 9223372036854775807 by omega)) ?_
      rintro _ Z ⟨rfl, hZ⟩
      have gZ := (hZ.2 _ lpW).trans gW
      have hlRZ := ld64 gZ (show i < R.length by rw [hBl.1]; exact hlt)
      rw [hBl.atz G P.zero hlt] at hlRZ
      have hq1 := bin_quo_i (.p .int) (a := ((z : Nat) : Int)) (b := ((Nat.gcd z (pr i) : Nat) : Int)) (by omega) (by omega) (by omega)
      have hq1' : ((z : Nat) : Int) / ((Nat.gcd z (pr i) : Nat) : Int) = ((z / Nat.gcd z (pr i) : Nat) : Int) := rfl
      rw [hq1'] at hq1
      have hq2 := bin_quo_i (.p .int) (a := 1000000000000000) (b := ((pr i : Nat) : Int)) (by decide) (by decide) (by omega)
      have hq2' : (1000000000000000 : Int) / ((pr i : Nat) : Int) = ((1000000000000000 / pr i : Nat) : Int) := rfl
      rw [hq2'] at hq2
      have hgd := gt_div (x := z / Nat.gcd z (pr i)) (m := 1000000000000000) hp1
      unfold lcmO at hst
      generalize z / Nat.gcd z (pr i) = m at *
      try simp only [↓sU, sD, reduceEqDiff, ↓reduceIte, reduceAdd, hq1]
      refine wss ?_
      simp only [↓sU, sD, reduceEqDiff, ↓reduceIte, reduceAdd, p6, natOf_cast, hiR, hlRZ, hq2]
      by_cases h : 1000000000000000 < m * pr i
      · have h3 := hgd.2 h
        rw [if_pos h] at hst
        refine wpc_yes (by simp only [↓sU, sD, reduceEqDiff, ↓reduceIte, reduceAdd, decide_eq_true (show ((m : Nat) : Int) > ((1000000000000000 / pr i : Nat) : Int) by omega)]) ?_
        refine wsr ?_
        simp only [↓sU, sD, reduceEqDiff, ↓reduceIte, reduceAdd]
        refine wpc_ret ?_
        refine .inr (.inr ⟨rfl, sSW.trans hZ, spF_none hst (by omega), ?_⟩)
        simp only [↓sU, sD, reduceEqDiff, ↓reduceIte, reduceAdd]
      · have h3 : ¬ 1000000000000000 / pr i < m := fun h4 => h (hgd.1 h4)
        rw [if_neg h] at hst
        refine wpc_non (by simp only [↓sU, sD, reduceEqDiff, ↓reduceIte, reduceAdd, decide_eq_false (show ¬ ((m : Nat) : Int) > ((1000000000000000 / pr i : Nat) : Int) by omega)]) (wpc_skip ?_)
        try simp only [↓sU, sD, reduceEqDiff, ↓reduceIte, reduceAdd]
        have w1 : IntKind.i64.wrap (((m : Nat) : Int) * ((pr i : Nat) : Int)) = ((m * pr i : Nat) : Int) := by rw [← Int.natCast_mul]; exact wrap_i64 (by omega) (by omega)
        refine wsr ?_
        simp only [↓sU, sD, reduceEqDiff, ↓reduceIte, reduceAdd, p6, natOf_cast, hiR, hlRZ, w1]
        refine wpc_exit ?_
        exact .inr (.inl ⟨rfl, rfl, hZ, hk3, _, hst, by simp only [↓sU, sD, reduceEqDiff, ↓reduceIte, reduceAdd, p1], by simp only [↓sU, sD, reduceEqDiff, ↓reduceIte, reduceAdd, p6], by simp only [↓sU, sD, reduceEqDiff, ↓reduceIte, reduceAdd], by simp only [↓sU, sD, reduceEqDiff, ↓reduceIte, reduceAdd, p21], by simp only [↓sU, sD, reduceEqDiff, ↓reduceIte, reduceAdd, p22], by simp only [↓sU, sD, reduceEqDiff, ↓reduceIte, reduceAdd, p23]⟩)
    clear p1 p6 p7 p21 p22 p23
    rintro o ⟨F, inr⟩ Z (⟨rfl, hk3, q0, rfl, p1, p6, p7, p8, p9, p21, p22, p23⟩ | ⟨rfl, q0, hZ, hk3, z', hz', p1, p6, p7, p21, p22, p23⟩ | ⟨rfl, h⟩)
    rotate_left
    · simp only at q0 p1 p6 p7 p21 p22 p23
      subst q0
      simp only [↓sU, sD, reduceEqDiff, ↓reduceIte, reduceAdd]
      have hnx : (nodeAt g i).next = [] := G.fin i hlt hk3
      exact .inl ⟨sSW.trans hZ, Nat.lt_of_lt_of_le lpW hZ.1, z', R, hz', hBl.next (by rw [hnx]; exact Nat.zero_le _), (hZ.2 _ lpW).trans gW, p1, p6, p7, p21, p22, p23⟩
    · simp only [↓sU, sD, reduceEqDiff, ↓reduceIte, reduceAdd]
      exact .inr h
    simp only at q0 p1 p6 p7 p8 p9 p21 p22 p23
    subst q0
    try simp only [↓sU, sD, reduceEqDiff, ↓reduceIte, reduceAdd]
    have hst : spF M g pr (i + 1) = if 1000000000000000 < pr i * wM M g i then none else some z := by
      rw [spF_succ, hz]
      show (if (nodeAt g i).kind = 3 then _ else _) = _
      rw [if_neg hk3]
    have hDA : DecH fns S (decAt D (nodeAt g i)) (nodeAt g i) := by
      unfold decAt
      split
      · rename_i h; exact decC_h H G hlt h
      · rename_i h
        rcases G.knd i hlt with h4 | h4 | h4
        · exact absurd h4 h
        · exact hD i hlt h4
        · exact absurd h4 hk3
    have hrad' : (decAt D (nodeAt g i)).rad (nodeAt g i) = wM M g i := by
      unfold decAt wM
      split
      · rfl
      · rename_i h
        rw [if_pos (by rcases G.knd i hlt with h4 | h4 | h4 <;> omega)]
        exact hr _
    have ldNW := ldN h2
    have sxa := IsSl.self hxa
    have sx := agg_node (k := .i64) (x0 := (nodeAt g i).kind) (x1 := (nodeAt g i).player) (x2 := (nodeAt g i).info) (IsSl.self hxa) (IsSl.self hxw) (IsSl.self hxp)
    refine wpc_seq (wpc_drd1 (fun _ => False) ?_)
    intro X1 x1
    simp only [↓sU, sD, reduceEqDiff, ↓reduceIte, reduceAdd, p1, p9, ldNW, sx, lxW, not_false_eq_true]
    refine runD_call0 rfl ?_
    simp only [↓sU, sD, reduceEqDiff, ↓reduceIte, reduceAdd]
    refine wpf_mono (at_spec (x := nodeAt g i) H ⟨xa, xw, xp, rfl, hxa.same (sSW.trans x1), hxw.same (sSW.trans x1), hxp.same (sSW.trans x1)⟩) ?_
    rintro _ X2 ⟨rfl, x2⟩
    refine ⟨x2, ?_⟩
    have edc : (if (nodeAt g i).kind = 1 then .iface 191 (.agg []) else .iface D.ty D.val : AV) = .iface (decAt D (nodeAt g i)).ty (decAt D (nodeAt g i)).val := by
      unfold decAt
      split <;> rfl
    rw [edc]
    generalize decAt D (nodeAt g i) = E at *
    obtain ⟨fr', hfr, hrad⟩ := hDA.r
    unfold tblR at hfr
    have s2 := (sSW.trans x1).trans x2
    simp only [↓sU, sD, reduceEqDiff, ↓reduceIte, reduceAdd, ldNW, p9, sx, lxW, not_false_eq_true]
    refine runD_inv (t := E.ty) (f := fr') (u := E.val) rfl (by simp only [↓sU, sD, reduceEqDiff, ↓reduceIte, reduceAdd]) hfr ?_
    simp only [↓sU, sD, reduceEqDiff, ↓reduceIte, reduceAdd]
    refine wpf_mono (hrad X2 _ s2 ⟨xa, xw, xp, rfl, hxa.same s2, hxw.same s2, hxp.same s2⟩) ?_
    rintro _ X3 ⟨rfl, x3⟩
    refine ⟨x3, ?_⟩
    rw [hrad']
    have sW3 := (x1.trans x2).trans x3
    have s3 := sSW.trans sW3
    have h3b := (sW3.2 _ lxW).trans h2
    have g3 := (sW3.2 _ lpW).trans gW
    have hlR3 := ld64 g3 (show i < R.length by rw [hBl.1]; exact hlt)
    rw [hBl.atz G P.zero hlt] at hlR3
    have lp3 := Nat.lt_of_lt_of_le lpW sW3.1
    have hq2 := bin_quo_i (.p .int) (a := 1000000000000000) (b := ((pr i : Nat) : Int)) (by decide) (by decide) (by omega)
    have hq2' : (1000000000000000 : Int) / ((pr i : Nat) : Int) = ((1000000000000000 / pr i : Nat) : Int) := rfl
    rw [hq2'] at hq2
    have hgd := gt_div (x := wM M g i) (m := 1000000000000000) hp1
    rw [Nat.mul_comm] at hgd
    have hwb := wM_bd hM G hlt
    have hkid := P.kid i hlt
    generalize wM M g i = w at *
    try simp only [↓sU, sD, reduceEqDiff, ↓reduceIte, reduceAdd]
    refine wss ?_
    simp only [↓sU, sD, reduceEqDiff, ↓reduceIte, reduceAdd, p6, p8, natOf_cast, hiR, hlR3, hq2]
    by_cases h : 1000000000000000 < pr i * w
    · have h3 := hgd.2 h
      rw [if_pos h] at hst
      refine wpc_yes (by simp only [↓sU, sD, reduceEqDiff, ↓reduceIte, reduceAdd, decide_eq_true (show ((w : Nat) : Int) > ((1000000000000000 / pr i : Nat) : Int) by omega)]) ?_
      refine wsr ?_
      simp only [↓sU, sD, reduceEqDiff, ↓reduceIte, reduceAdd]
      refine wpc_ret ?_
      simp only [↓sU, sD, reduceEqDiff, ↓reduceIte, reduceAdd]
      exact .inr ⟨s3, spF_none hst (by omega)⟩
    have h3 : ¬ 1000000000000000 / pr i < w := fun h4 => h (hgd.1 h4)
    rw [if_neg h] at hst
    refine wpc_non (by simp only [↓sU, sD, reduceEqDiff, ↓reduceIte, reduceAdd, decide_eq_false (show ¬ ((w : Nat) : Int) > ((1000000000000000 / pr i : Nat) : Int) by omega)]) (wpc_skip ?_)
    try simp only [↓sU, sD, reduceEqDiff, ↓reduceIte, reduceAdd]
    have hxa3 := hxa.same s3
    refine wsr ?_
    simp only [↓sU, sD, reduceEqDiff, ↓reduceIte, reduceAdd, p9, evQ_faddr, faddr_ptr, ld6_3 h3b, hxa3.len, Int.ofNat_eq_natCast]
    refine wpc_mono (Q := fun o A' U => o = .normal ∧ SpK S S1.nx nv (.iface D.ty D.val) xa g pr i w z 0 A' U) (wpc_block (wpc_loop (SpK S S1.nx nv (.iface D.ty D.val) xa g pr i w z) ?_ (nodeAt g i).next.length _ _ ⟨rfl, s3, lp3, 0, R, by omega, hBl, g3, by simp only [↓sU, sD, reduceEqDiff, ↓reduceIte, reduceAdd, p1], by simp only [↓sU, sD, reduceEqDiff, ↓reduceIte, reduceAdd, p6], by simp only [↓sU, sD, reduceEqDiff, ↓reduceIte, reduceAdd, p7], by simp only [↓sU, sD, reduceEqDiff, ↓reduceIte, reduceAdd, p8], by simp only [↓sU, sD, reduceEqDiff, ↓reduceIte, reduceAdd], by simp only [↓sU, sD, reduceEqDiff, ↓reduceIte, reduceAdd, p21], by simp only [↓sU, sD, reduceEqDiff, ↓reduceIte, reduceAdd, p22], by simp only [↓sU, sD, reduceEqDiff, ↓reduceIte, reduceAdd, p23], by simp only [↓sU, sD, reduceEqDiff, ↓reduceIte, reduceAdd], by simp only [↓sU, sD, reduceEqDiff, ↓reduceIte, reduceAdd], by simp only [↓sU, sD, reduceEqDiff, ↓reduceIte, reduceAdd]; try rfl⟩)) ?_
    · clear p1 p6 p7 p8 p9 p21 p22 p23
      rintro k' ⟨F, inr⟩ U ⟨q0, hU, lpU, j, R', hjk, hB, gU, p1, p6, p7, p8, p11, p21, p22, p23, p65, p66, p67⟩
      simp only at q0 p1 p6 p7 p8 p11 p21 p22 p23 p65 p66 p67
      subst q0
      have hxaU := hxa.same hU
      refine wsr ?_
      simp only [↓sU, sD, reduceEqDiff, ↓reduceIte, reduceAdd, p66, p67]
      by_cases hj : j < (nodeAt g i).next.length
      rotate_left
      · refine wpc_seq (wpc_non (by simp only [↓sU, sD, reduceEqDiff, ↓reduceIte, reduceAdd, decide_eq_false (show ¬ (j : Int) < (((nodeAt g i).next.length : Nat) : Int) by omega)]) (wpc_exit ?_))
        simp only [↓sU, sD, reduceEqDiff, ↓reduceIte, reduceAdd]
        have hk0 : k' = 0 := by omega
        subst hk0
        exact ⟨rfl, hU, lpU, j, R', hjk, hB, gU, by simp only [↓sU, sD, reduceEqDiff, ↓reduceIte, reduceAdd, p1], by simp only [↓sU, sD, reduceEqDiff, ↓reduceIte, reduceAdd, p6], by simp only [↓sU, sD, reduceEqDiff, ↓reduceIte, reduceAdd, p7], by simp only [↓sU, sD, reduceEqDiff, ↓reduceIte, reduceAdd, p8], by simp only [↓sU, sD, reduceEqDiff, ↓reduceIte, reduceAdd, p11], by simp only [↓sU, sD, reduceEqDiff, ↓reduceIte, reduceAdd, p21], by simp only [↓sU, sD, reduceEqDiff, ↓reduceIte, reduceAdd, p22], by simp only [↓sU, sD, reduceEqDiff, ↓reduceIte, reduceAdd, p23], by simp only [↓sU, sD, reduceEqDiff, ↓reduceIte, reduceAdd, p65], by simp only [↓sU, sD, reduceEqDiff, ↓reduceIte, reduceAdd, p66], by simp only [↓sU, sD, reduceEqDiff, ↓reduceIte, reduceAdd, p67]⟩
      refine wpc_seq (wpc_yes (by simp only [↓sU, sD, reduceEqDiff, ↓reduceIte, reduceAdd, decide_eq_true (show (j : Int) < (((nodeAt g i).next.length : Nat) : Int) by omega)]) (wpc_skip ?_))
      try simp only [↓sU, sD, reduceEqDiff, ↓reduceIte, reduceAdd]
      obtain ⟨b1, b2⟩ := G.good.kids i hlt j hj
      have hpk := hkid j hj
      have hput := hB.put G hlt hj
      have hiac := hxaU.iaddr hj
      have hlac := hxaU.ld hj
      have hlRU := ld64 gU (show i < R'.length by rw [hB.1]; exact hlt)
      rw [hB.atz G P.zero hlt] at hlRU
      have w1 : IntKind.i64.wrap ((j : Int) + 1) = ((j + 1 : Nat) : Int) := by have := G.good.nxt i hlt; rw [wrap_i64 (by omega) (by omega)]; omega
      have w2 : IntKind.i64.wrap (((pr i : Nat) : Int) * ((w : Nat) : Int)) = ((pr i * w : Nat) : Int) := by rw [← Int.natCast_mul]; exact wrap_i64 (by omega) (by omega)
      generalize (nodeAt g i).next.getD j 0 = c at *
      have hnc := natOf_nn (k := .i64) (show 0 ≤ c by omega)
      have hcN : c.toNat < g.nodes.length := by omega
      have hi2 := row_ia (b := S1.nx) (o := false) hcN
      rw [hpk] at hput
      refine wpc_seq (wpc_block (wpc_seq (wpc_reg ?_)))
      simp only [↓sU, sD, reduceEqDiff, ↓reduceIte, reduceAdd, p65, p67, natOf_cast, hiac, hlac]
      refine wpc_reg ?_
      simp only [↓sU, sD, reduceEqDiff, ↓reduceIte, reduceAdd, p6, p8, p11, natOf_cast, hiR, hlRU, hnc, hi2, w2]
      refine wpo_x (fun call => by simp only [↓sU, sD, reduceEqDiff, ↓reduceIte, reduceAdd, evX_st, cells_int]; exact st64 (S := U) gU (by rw [hB.1]; exact hcN)) ?_
      simp only [↓sU, sD, reduceEqDiff, ↓reduceIte, reduceAdd]
      refine wpc_reg ?_
      simp only [↓sU, sD, reduceEqDiff, ↓reduceIte, reduceAdd, p67, w1]
      exact ⟨k' - 1, by omega, rfl, hU.put s1.1 _, lpU, j + 1, _, by omega, hput, by simp only; rw [T.get_set, if_pos rfl], by simp only [↓sU, sD, reduceEqDiff, ↓reduceIte, reduceAdd, p1], by simp only [↓sU, sD, reduceEqDiff, ↓reduceIte, reduceAdd, p6], by simp only [↓sU, sD, reduceEqDiff, ↓reduceIte, reduceAdd, p7], by simp only [↓sU, sD, reduceEqDiff, ↓reduceIte, reduceAdd, p8], by simp only [↓sU, sD, reduceEqDiff, ↓reduceIte, reduceAdd, p11], by simp only [↓sU, sD, reduceEqDiff, ↓reduceIte, reduceAdd, p21], by simp only [↓sU, sD, reduceEqDiff, ↓reduceIte, reduceAdd, p22], by simp only [↓sU, sD, reduceEqDiff, ↓reduceIte, reduceAdd, p23], by simp only [↓sU, sD, reduceEqDiff, ↓reduceIte, reduceAdd, p65], by simp only [↓sU, sD, reduceEqDiff, ↓reduceIte, reduceAdd, p66], by simp only [↓sU, sD, reduceEqDiff, ↓reduceIte, reduceAdd]⟩
    · clear p1 p6 p7 p8 p9 p21 p22 p23
      rintro o ⟨F, inr⟩ U ⟨rfl, q0, hU, lpU, j, R', hjk, hB, gU, p1, p6, p7, p8, p11, p21, p22, p23, p65, p66, p67⟩
      simp only at q0 p1 p6 p7 p21 p22 p23
      subst q0
      simp only [↓sU, sD, reduceEqDiff, ↓reduceIte, reduceAdd]
      exact .inl ⟨hU, lpU, z, R', hst, hB.next (show (nodeAt g i).next.length ≤ j by omega), gU, p1, p6, p7, p21, p22, p23⟩
  rintro o ⟨F, inr⟩ Z (⟨rfl, q0, hZ, _, i, z, R, hik, hz, _, _, _, _, p7, _⟩ | ⟨rfl, hZ, hno, p4, p5⟩)
  · simp only at q0 p7
    subst q0
    obtain rfl : i = g.nodes.length := by omega
    try simp only [↓sU, sD, reduceEqDiff, ↓reduceIte, reduceAdd]
    refine wsr ?_
    simp only [↓sU, sD, reduceEqDiff, ↓reduceIte, reduceAdd, p7]
    refine wpc_ret ?_
    simp only [↓sU, sD, reduceEqDiff, ↓reduceIte, reduceAdd]
    unfold spN spR
    rw [hz]
    exact ⟨hZ, rfl⟩
  · simp only at p4 p5
    simp only [↓sU, sD, reduceEqDiff, ↓reduceIte, reduceAdd, p4, p5]
    unfold spN spR
    rw [hno]
    exact ⟨hZ, rfl⟩
end Go.Ev.Gl

namespace Go.Ev.Gl
variable {fns : T AFn}

/-! ## The reference's check of a table -/
theorem shE_len {M : Nat} {l : List Int} (h : l.length < 1 ∨ 10 < l.length) : shE M l = 3 := by unfold shE; rw [if_pos h]
theorem shE_bad {M : Nat} {l : List Int} (h : ¬ (l.length < 1 ∨ 10 < l.length)) (hb : ∃ x ∈ l, x < 0 ∨ (M : Int) < x) : shE M l = 2 := by unfold shE; rw [if_neg h, if_pos hb]
theorem shE_sum {M : Nat} {l : List Int} (h : ¬ (l.length < 1 ∨ 10 < l.length)) (hb : ∀ x ∈ l, 0 ≤ x ∧ x ≤ (M : Int)) (hs : l.sum ≠ (M : Int)) : shE M l = 14 := by
  unfold shE
  rw [if_neg h, if_neg (by rintro ⟨x, hx, h⟩; have := hb x hx; omega), if_pos hs]
theorem shE_ok {M : Nat} {l : List Int} (h : ¬ (l.length < 1 ∨ 10 < l.length)) (hb : ∀ x ∈ l, 0 ≤ x ∧ x ≤ (M : Int)) (hs : l.sum = (M : Int)) : shE M l = 0 := by
  unfold shE
  rw [if_neg h, if_neg (by rintro ⟨x, hx, h⟩; have := hb x hx; omega), if_neg (fun h => h hs)]
theorem shsE_at {M : Nat} : ∀ {L : List (List Int)} {i : Nat}, i < L.length → (∀ j, j < i → shE M (L.getD j []) = 0) → shE M (L.getD i []) ≠ 0 → shsE M L = shE M (L.getD i [])
  | x :: r, 0, _, _, h => by
    have h : shE M x ≠ 0 := h
    show (if shE M x ≠ 0 then shE M x else shsE M r) = shE M x
    rw [if_pos h]
  | x :: r, i + 1, hi, h0, h => by
    have h1 : shE M x = 0 := h0 0 (by omega)
    show (if shE M x ≠ 0 then shE M x else shsE M r) = shE M (r.getD i [])
    rw [if_neg (fun h => h h1)]
    exact shsE_at (by simpa using hi) (fun j hj => h0 (j + 1) (by omega)) h
theorem shsE_all {M : Nat} : ∀ {L : List (List Int)}, (∀ j, j < L.length → shE M (L.getD j []) = 0) → shsE M L = 0
  | [], _ => rfl
  | x :: r, h0 => by
    have h1 : shE M x = 0 := h0 0 (Nat.zero_lt_succ _)
    show (if shE M x ≠ 0 then shE M x else shsE M r) = 0
    rw [if_neg (fun h => h h1)]
    exact shsE_all fun j hj => h0 (j + 1) (Nat.succ_lt_succ hj)
theorem mem_getD {l : List Int} {j : Nat} (h : j < l.length) : l.getD j 0 ∈ l := by
  rw [List.getD_eq_getElem?_getD, List.getElem?_eq_getElem h]; exact List.getElem_mem h
theorem all_getD {M : Nat} {l : List Int} (h : ∀ j, j < l.length → 0 ≤ l.getD j 0 ∧ l.getD j 0 ≤ (M : Int)) : ∀ x ∈ l, 0 ≤ x ∧ x ≤ (M : Int) := fun x hx => by
  obtain ⟨j, hj, rfl⟩ := List.mem_iff_getElem.1 hx
  have := h j hj
  rwa [List.getD_eq_getElem?_getD, List.getElem?_eq_getElem hj] at this
theorem take_bd {M : Nat} {l : List Int} (hM : M ≤ 1073741824) : ∀ {j : Nat}, j ≤ l.length → (∀ q, q < j → 0 ≤ l.getD q 0 ∧ l.getD q 0 ≤ (M : Int)) → 0 ≤ (l.take j).sum ∧ (l.take j).sum ≤ (j : Int) * 1073741824
  | 0, _, _ => by simp
  | j + 1, hj, h => by
    have := take_bd hM (j := j) (by omega) fun q hq => h q (by omega)
    have h2 := h j (by omega)
    rw [sum_take (by omega)]
    omega
/-- how far a row has been looked at -/
def Seen34 (M : Nat) (l : List Int) (j : Nat) : Prop := ∀ q, q < j → 0 ≤ l.getD q 0 ∧ l.getD q 0 ≤ (M : Int)
theorem Seen34.next {M : Nat} {l : List Int} {j : Nat} (h : Seen34 M l j) (h1 : 0 ≤ l.getD j 0) (h2 : l.getD j 0 ≤ (M : Int)) : Seen34 M l (j + 1) := fun q hq => by
  by_cases e : q = j
  · subst e; exact ⟨h1, h2⟩
  · exact h q (by omega)
theorem slG_cells1 {k : Nat} {α : Type} {E : St → List AV → α → Prop} {S : St} {v : AV} {l : List α} (h : IsSlG k E S v l) : v.cells = some [v] := by
  rcases h with ⟨_, h | h⟩ | ⟨b, off, cap, o, cs, rfl, _⟩
  · subst h; rfl
  · subst h; rfl
  · rfl
end Go.Ev.Gl

namespace Go.Ev.Gl
variable {fns : T AFn}

/-! ## A range over the rows of a list -/
theorem rowsF_spec {S : St} {v : AV} (H : Has fns) (hc : v.cells = some [v]) : wpf fns (.fn 160 [] []) [v] S fun r X => Same S X ∧ ∃ b, r = .fn 172 [] [.ptr b 0] ∧ S.nx ≤ b ∧ b < X.nx ∧ X.h.get b = some (.cells [v] false 0) := by
  refine wpf_fn H.f160 (by simp) ?_
  simp only [↓sU, sD, reduceEqDiff, ↓reduceIte, reduceAdd]
  refine wsr ?_
  refine wpo_box (cs := [v]) (by simp only [↓sU, sD, reduceEqDiff, ↓reduceIte, reduceAdd]; exact hc) ?_
  intro S1 s1 n1 g1
  simp only [↓sU, sD, reduceEqDiff, ↓reduceIte, reduceAdd]
  refine wsr ?_
  simp only [↓sU, sD, reduceEqDiff, ↓reduceIte, reduceAdd, evQ_func]
  refine wpc_ret ?_
  simp only [↓sU, sD, reduceEqDiff, ↓reduceIte, reduceAdd]
  exact ⟨s1, S.nx, rfl, Nat.le_refl _, by omega, g1⟩
def RgI (J : Nat → St → Prop) (X : St) (ac bd : AC) (p : Nat) (F0 : Fr) (v : AV) (n : Nat) (k : Nat) (A : Act') (Y : St) : Prop := A.inr = false ∧ ∃ i, i + k = n ∧ J i Y ∧ Y.h.get X.nx = some (.loop .ready none F0 [p] ac bd) ∧ tmpV 0 A.F = .yld X.nx ∧ tmpV 5 A.F = v ∧ tmpV 6 A.F = .int .i64 (n : Int) ∧ tmpV 7 A.F = .int .i64 (i : Int)
set_option maxHeartbeats 4000000 in
theorem rng_rows {S X : St} {f : Opd} {p b : Nat} {ac bd : AC} {A : Act'} {L : List (List Int)} {v : AV} {J : Nat → St → Prop} {R : St → Prop} {Q : Out → Act' → St → Prop} (H : Has fns) (hi : A.inr = false) (hf : f.val A.F = .fn 172 [] [.ptr b 0]) (hv : IsSlG 1 SlE S v L) (hll : L.length ≤ 10000000) (hb : X.h.get b = some (.cells [v] false 0)) (hbl : b < X.nx)
    (hJ : ∀ i Y, J i Y → Same S Y ∧ X.nx < Y.nx)
    (hJs : ∀ i Y Y', J i Y → Y.nx ≤ Y'.nx → (∀ c, c ≠ X.nx → Y'.h.get c = Y.h.get c) → J i Y')
    (hRs : ∀ Y Y', R Y → Y.nx ≤ Y'.nx → (∀ c, c ≠ X.nx → Y'.h.get c = Y.h.get c) → R Y')
    (J0 : ∀ Y, X.nx < Y.nx → (∀ c, c ≠ X.nx → Y.h.get c = X.h.get c) → J 0 Y)
    (hbody : ∀ i a Y, i < L.length → J i Y → IsSl .i64 S a (L.getD i []) → wpc fns ac ⟨putF (some p) A.F a, true⟩ Y fun o A1 Y1 => o = .normal ∧ Y1 = Y ∧ ∀ bl, wpc fns bd A1 ⟨Y.h.set X.nx bl, Y.nx⟩ fun o _ Y2 => Y2.h.get X.nx = bl ∧ Y.nx ≤ Y2.nx ∧ ((o = .normal ∧ J (i + 1) Y2) ∨ (o = .ret ∧ R Y2)))
    (hend : ∀ Y, J L.length Y → Q .normal A Y) (hret : ∀ Y, R Y → Q .ret A Y) : wpc fns (.rng f [p] ac bd) A X Q := by
  have set_ne : ∀ (Y : St) (bl : Option AB) (c : Nat), c ≠ X.nx → (Y.h.set X.nx bl).get c = Y.h.get c := fun Y bl c h => by rw [T.get_set, if_neg h]
  refine wpc_rng hi hf ?_
  generalize hX0 : (⟨X.h.set X.nx (some (.loop .ready none A.F [p] ac bd)), X.nx + 1⟩ : St) = X0
  have e0 : X0.h.get X.nx = some (.loop .ready none A.F [p] ac bd) := by rw [← hX0]; simp only; rw [T.get_set, if_pos rfl]
  have e1 : ∀ c, c ≠ X.nx → X0.h.get c = X.h.get c := fun c hc => by rw [← hX0]; exact set_ne X _ c hc
  have e2 : X0.nx = X.nx + 1 := by rw [← hX0]
  have hJ0 : J 0 X0 := J0 X0 (by omega) e1
  have hb0 : X0.h.get b = some (.cells [v] false 0) := (e1 b (by omega)).trans hb
  have ldb := ldrow (p := 0) hb0 rfl
  clear hX0
  refine wpf_fn H.f172 (by simp) ?_
  simp only [↓sU, sD, reduceEqDiff, ↓reduceIte, reduceAdd]
  refine wsr ?_
  simp only [↓sU, sD, reduceEqDiff, ↓reduceIte, reduceAdd, ldb, hv.len, Int.ofNat_eq_natCast]
  have fin1 : ∀ Y : St, J L.length Y → Y.h.get X.nx = some (.loop .ready none A.F [p] ac bd) → ∃ st pend fr ps2 as2 bd2 c, Y.h.get X.nx = some (.loop st pend fr ps2 as2 bd2) ∧ st ≠ .busy ∧ outC pend = some c ∧ wpc fns c A ⟨Y.h.set X.nx (some (.loop .exhausted pend fr ps2 as2 bd2)), Y.nx⟩ Q := fun Y h1 h2 =>
    ⟨_, _, _, _, _, _, .skip, h2, (by intro h; cases h), rfl, wpc_skip (hend _ (hJs _ _ _ h1 (Nat.le_refl _) (set_ne Y _)))⟩
  have fin2 : ∀ Y : St, R Y → Y.h.get X.nx = some (.loop .done (some .ret) A.F [p] ac bd) → ∃ st pend fr ps2 as2 bd2 c, Y.h.get X.nx = some (.loop st pend fr ps2 as2 bd2) ∧ st ≠ .busy ∧ outC pend = some c ∧ wpc fns c A ⟨Y.h.set X.nx (some (.loop .exhausted pend fr ps2 as2 bd2)), Y.nx⟩ Q := fun Y h1 h2 =>
    ⟨_, _, _, _, _, _, .ret, h2, (by intro h; cases h), rfl, wpc_ret (hret _ (hRs _ _ h1 (Nat.le_refl _) (set_ne Y _)))⟩
  refine wpc_mono (Q := fun o A' Y => (o = .normal ∧ J L.length Y ∧ Y.h.get X.nx = some (.loop .ready none A.F [p] ac bd)) ∨ (o = .ret ∧ R Y ∧ Y.h.get X.nx = some (.loop .done (some .ret) A.F [p] ac bd))) (wpc_block (wpc_loop (RgI J X ac bd p A.F v L.length) ?_ L.length _ _ ⟨rfl, 0, by omega, hJ0, e0, by simp only [↓sU, sD, reduceEqDiff, ↓reduceIte, reduceAdd], by simp only [↓sU, sD, reduceEqDiff, ↓reduceIte, reduceAdd], by simp only [↓sU, sD, reduceEqDiff, ↓reduceIte, reduceAdd]; try rfl, by simp only [↓sU, sD, reduceEqDiff, ↓reduceIte, reduceAdd]; try rfl⟩)) ?_
  rotate_left
  · rintro o ⟨F, inr⟩ Y (⟨rfl, h1, h2⟩ | ⟨rfl, h1, h2⟩)
    · try simp only [↓sU, sD, reduceEqDiff, ↓reduceIte, reduceAdd]
      exact ⟨_, rfl, fin1 Y h1 h2⟩
    · try simp only [↓sU, sD, reduceEqDiff, ↓reduceIte, reduceAdd]
      exact fin2 Y h1 h2
  clear hJ0 e0 e1 e2 hb0 ldb fin1 fin2
  rintro k ⟨F, inr⟩ Y ⟨q0, i, hik, hJY, hl, p0, p5, p6, p7⟩
  simp only at q0 p0 p5 p6 p7
  subst q0
  obtain ⟨sY, lY⟩ := hJ _ _ hJY
  refine wsr ?_
  simp only [↓sU, sD, reduceEqDiff, ↓reduceIte, reduceAdd, p6, p7]
  by_cases hlt : i < L.length
  rotate_left
  · refine wpc_seq (wpc_non (by simp only [↓sU, sD, reduceEqDiff, ↓reduceIte, reduceAdd, decide_eq_false (show ¬ (i : Int) < ((L.length : Nat) : Int) by omega)]) (wpc_exit ?_))
    simp only [↓sU, sD, reduceEqDiff, ↓reduceIte, reduceAdd]
    obtain rfl : i = L.length := by omega
    exact .inl ⟨hJY, hl⟩
  refine wpc_seq (wpc_yes (by simp only [↓sU, sD, reduceEqDiff, ↓reduceIte, reduceAdd, decide_eq_true (show (i : Int) < ((L.length : Nat) : Int) by omega)]) (wpc_skip ?_))
  try simp only [↓sU, sD, reduceEqDiff, ↓reduceIte, reduceAdd]
  obtain ⟨e, br, qr, hia, lbr, _, ⟨a, rfl, hrow⟩, _, hlf⟩ := IsSlG.at hv (by decide) (get_some hlt)
  have hld := hlf 0 a rfl
  rw [Nat.add_zero, ← ldSame sY lbr] at hld
  have w1 : IntKind.i64.wrap ((i : Int) + 1) = ((i + 1 : Nat) : Int) := by rw [wrap_i64 (by omega) (by omega)]; omega
  refine wpc_seq (wpc_block (wpc_seq (wpc_reg ?_)))
  simp only [↓sU, sD, reduceEqDiff, ↓reduceIte, reduceAdd, p5, p7, natOf_cast, hia, hld]
  refine wsr ?_
  simp only [↓sU, sD, reduceEqDiff, ↓reduceIte, reduceAdd, p0]
  refine wpo_call ?_
  simp only [↓sU, sD, reduceEqDiff, ↓reduceIte, reduceAdd]
  refine wpf_mono (Q := fun r Z => (r = .bool true ∧ J (i + 1) Z ∧ Z.h.get X.nx = some (.loop .ready none A.F [p] ac bd)) ∨ (r = .bool false ∧ R Z ∧ Z.h.get X.nx = some (.loop .done (some .ret) A.F [p] ac bd))) (wpf_yld hl rfl (wpc_mono (hbody i a Y hlt hJY hrow) ?_)) ?_
  · rintro o A1 Y1 ⟨rfl, rfl, hb1⟩
    refine ⟨rfl, none, A.F, [p], ac, hl, wpc_mono (hb1 _) ?_⟩
    rintro o A2 Y2 ⟨g2, n2, h2⟩
    refine ⟨none, A.F, [p], ac, bd, g2, ?_⟩
    rcases h2 with ⟨rfl, h2⟩ | ⟨rfl, h2⟩
    · exact .inl ⟨rfl, .inl ⟨rfl, hJs _ _ _ h2 (Nat.le_refl _) (set_ne Y2 _), by simp only; rw [T.get_set, if_pos rfl]⟩⟩
    · exact .inr ⟨(by intro h; cases h), .inr ⟨rfl, hRs _ _ h2 (Nat.le_refl _) (set_ne Y2 _), by simp only; rw [T.get_set, if_pos rfl]⟩⟩
  · rintro r Z (⟨rfl, h1, h2⟩ | ⟨rfl, h1, h2⟩)
    · simp only [↓sU, sD, reduceEqDiff, ↓reduceIte, reduceAdd, un_not, Bool.not_true]
      refine wpc_non (by simp only [↓sU, sD, reduceEqDiff, ↓reduceIte, reduceAdd]) (wpc_skip ?_)
      try simp only [↓sU, sD, reduceEqDiff, ↓reduceIte, reduceAdd]
      refine wpc_reg ?_
      simp only [↓sU, sD, reduceEqDiff, ↓reduceIte, reduceAdd, p7, w1]
      exact ⟨k - 1, by omega, rfl, i + 1, by omega, h1, h2, by simp only [↓sU, sD, reduceEqDiff, ↓reduceIte, reduceAdd, p0], by simp only [↓sU, sD, reduceEqDiff, ↓reduceIte, reduceAdd, p5], by simp only [↓sU, sD, reduceEqDiff, ↓reduceIte, reduceAdd, p6], by simp only [↓sU, sD, reduceEqDiff, ↓reduceIte, reduceAdd]⟩
    · simp only [↓sU, sD, reduceEqDiff, ↓reduceIte, reduceAdd, un_not, Bool.not_false]
      refine wpc_yes (by simp only [↓sU, sD, reduceEqDiff, ↓reduceIte, reduceAdd]) (wpc_ret ?_)
      simp only [↓sU, sD, reduceEqDiff, ↓reduceIte, reduceAdd]
      exact .inr ⟨h1, h2⟩
end Go.Ev.Gl

namespace Go.Ev.Gl
variable {fns : T AFn}

/-! ## The program's check of a table -/
def TcJ (S : St) (l tb rb : Nat) (b : Int) (v : AV) (M : Nat) (L : List (List Int)) (i : Nat) (Y : St) : Prop := Same S Y ∧ l < Y.nx ∧ Y.h.get tb = some (.cells [.int .i64 b, v] false 0) ∧ Y.h.get rb = some (.cells [.int .i64 0] false 0) ∧ ∀ j, j < i → shE M (L.getD j []) = 0
def TcR (S : St) (l rb : Nat) (e : Int) (Y : St) : Prop := Same S Y ∧ l < Y.nx ∧ Y.h.get rb = some (.cells [.int .i64 e] false 0)
def TcK (Z : St) (F0 : Fr) (a : AV) (M : Nat) (l : List Int) (k : Nat) (A : Act') (X : St) : Prop := A.inr = true ∧ X = Z ∧ ∃ j, j + k = l.length ∧ Seen34 M l j ∧ tmpV 1 A.F = tmpV 1 F0 ∧ tmpV 2 A.F = tmpV 2 F0 ∧ tmpV 4 A.F = .int .i64 (l.take j).sum ∧ tmpV 31 A.F = a ∧ tmpV 32 A.F = .int .i64 ((l.length : Nat) : Int) ∧ tmpV 33 A.F = .int .i64 (j : Int)
set_option maxHeartbeats 8000000 in
theorem tab_spec {S : St} {v : AV} {b : Int} {L : List (List Int)} (H : Has fns) (hv : IsSlG 1 SlE S v L) (hL : L.length ≤ 10000000) : wpf fns (.fn 122 [] []) [.agg [.int .i64 b, v]] S fun r X => r = .int .i64 (tabE b L) ∧ Same S X := by
  refine wpf_fn H.f122 (by simp) ?_
  simp only [↓sU, sD, reduceEqDiff, ↓reduceIte, reduceAdd]
  refine wsr ?_
  refine wpo_box (cs := [.int .i64 b, v]) rfl ?_
  intro S1 s1 n1 c1
  refine wpo_alloc ?_
  intro S2 s2 n2 r2
  have c2 := (s2.2 _ (show S.nx < S1.nx by omega)).trans c1
  have s12 := s1.trans s2
  simp only [↓sU, sD, reduceEqDiff, ↓reduceIte, reduceAdd]
  have l0 := lg2_0 c2
  have l1 := lg2_1 c2
  refine wss ?_
  by_cases hb1 : b < 1
  · have hE : tabE b L = 2 := by unfold tabE; rw [if_pos (.inl hb1)]
    simp only [↓sU, sD, reduceEqDiff, ↓reduceIte, reduceAdd, evQ_faddr, faddr_ptr, l0, decide_eq_true hb1]
    refine wpc_yes (by simp only [↓sU, sD, reduceEqDiff, ↓reduceIte, reduceAdd]) ?_
    refine wsr ?_
    refine wpo_st (b := S1.nx) (cs' := [.int .i64 2]) (by simp only [↓sU, sD, reduceEqDiff, ↓reduceIte, reduceAdd]) (by simp only [↓sU, sD, reduceEqDiff, ↓reduceIte, reduceAdd]; rfl) r2 rfl rfl ?_
    intro X x1 x2 x3
    have lr := ldrow (p := 0) x3 rfl
    simp only [↓sU, sD, reduceEqDiff, ↓reduceIte, reduceAdd]
    refine wpc_ret ?_
    simp only [↓sU, sD, reduceEqDiff, ↓reduceIte, reduceAdd, results_cell, hE, lr]
    exact x1.same s12 (by omega)
  by_cases hb2 : 30 < b
  · have hE : tabE b L = 2 := by unfold tabE; rw [if_pos (.inr hb2)]
    simp only [↓sU, sD, reduceEqDiff, ↓reduceIte, reduceAdd, evQ_faddr, faddr_ptr, l0, decide_eq_false hb1]
    refine wpc_yes (by simp only [↓sU, sD, reduceEqDiff, ↓reduceIte, reduceAdd, decide_eq_true (show b > 30 from hb2)]) ?_
    refine wsr ?_
    refine wpo_st (b := S1.nx) (cs' := [.int .i64 2]) (by simp only [↓sU, sD, reduceEqDiff, ↓reduceIte, reduceAdd]) (by simp only [↓sU, sD, reduceEqDiff, ↓reduceIte, reduceAdd]; rfl) r2 rfl rfl ?_
    intro X x1 x2 x3
    have lr := ldrow (p := 0) x3 rfl
    simp only [↓sU, sD, reduceEqDiff, ↓reduceIte, reduceAdd]
    refine wpc_ret ?_
    simp only [↓sU, sD, reduceEqDiff, ↓reduceIte, reduceAdd, results_cell, hE, lr]
    exact x1.same s12 (by omega)
  simp only [↓sU, sD, reduceEqDiff, ↓reduceIte, reduceAdd, evQ_faddr, faddr_ptr, l0, decide_eq_false hb1]
  refine wpc_non (by simp only [↓sU, sD, reduceEqDiff, ↓reduceIte, reduceAdd, decide_eq_false (show ¬ b > 30 from hb2)]) (wpc_skip ?_)
  try simp only [↓sU, sD, reduceEqDiff, ↓reduceIte, reduceAdd]
  have hM := radM_bd (b := b) (by omega)
  have hsh := bin_shl1 (.p .int) (b := b) (by omega) (by omega)
  refine wss ?_
  simp only [↓sU, sD, reduceEqDiff, ↓reduceIte, reduceAdd, evQ_faddr, faddr_ptr, l1, hv.len, Int.ofNat_eq_natCast]
  by_cases hl : 200 < L.length
  · have hE : tabE b L = 4 := by unfold tabE; rw [if_neg (by omega), if_pos hl]
    refine wpc_yes (by simp only [↓sU, sD, reduceEqDiff, ↓reduceIte, reduceAdd, decide_eq_true (show ((L.length : Nat) : Int) > 200 by omega)]) ?_
    refine wsr ?_
    refine wpo_st (b := S1.nx) (cs' := [.int .i64 4]) (by simp only [↓sU, sD, reduceEqDiff, ↓reduceIte, reduceAdd]) (by simp only [↓sU, sD, reduceEqDiff, ↓reduceIte, reduceAdd]; rfl) r2 rfl rfl ?_
    intro X x1 x2 x3
    have lr := ldrow (p := 0) x3 rfl
    simp only [↓sU, sD, reduceEqDiff, ↓reduceIte, reduceAdd]
    refine wpc_ret ?_
    simp only [↓sU, sD, reduceEqDiff, ↓reduceIte, reduceAdd, results_cell, hE, lr]
    exact x1.same s12 (by omega)
  refine wpc_non (by simp only [↓sU, sD, reduceEqDiff, ↓reduceIte, reduceAdd, decide_eq_false (show ¬ ((L.length : Nat) : Int) > 200 by omega)]) (wpc_skip ?_)
  try simp only [↓sU, sD, reduceEqDiff, ↓reduceIte, reduceAdd]
  have hE : tabE b L = shsE (radM b) L := by unfold tabE; rw [if_neg (by omega), if_neg hl]
  rw [hE]
  generalize radM b = M at *
  clear hE
  refine wpc_seq (wpc_mono (Q := fun o A' Z => (o = .normal ∧ A'.inr = false ∧ tmpV 2 A'.F = .ptr S1.nx 0 ∧ Same S Z ∧ Z.h.get S1.nx = some (.cells [.int .i64 0] false 0) ∧ shsE M L = 0) ∨ (o = .ret ∧ tmpV 2 A'.F = .ptr S1.nx 0 ∧ Same S Z ∧ Z.h.get S1.nx = some (.cells [.int .i64 (shsE M L)] false 0))) (wpc_seq (wpc_reg ?_)) ?_)
  rotate_left
  · rintro o ⟨F, inr⟩ Z (⟨rfl, q0, p2, hZ, gZ, h0⟩ | ⟨rfl, p2, hZ, gZ⟩)
    · simp only at q0 p2
      subst q0
      try simp only [↓sU, sD, reduceEqDiff, ↓reduceIte, reduceAdd]
      refine wsr ?_
      refine wpo_st (b := S1.nx) (cs' := [.int .i64 0]) (by simp only [↓sU, sD, reduceEqDiff, ↓reduceIte, reduceAdd, p2]) (by simp only [↓sU, sD, reduceEqDiff, ↓reduceIte, reduceAdd]; rfl) gZ rfl rfl ?_
      intro X x1 x2 x3
      have lr := ldrow (p := 0) x3 rfl
      simp only [↓sU, sD, reduceEqDiff, ↓reduceIte, reduceAdd]
      refine wpc_ret ?_
      simp only [↓sU, sD, reduceEqDiff, ↓reduceIte, reduceAdd, results_cell, p2, h0, lr]
      exact x1.same hZ (by omega)
    · simp only at p2
      have lr := ldrow (p := 0) gZ rfl
      simp only [↓sU, sD, reduceEqDiff, ↓reduceIte, reduceAdd, results_cell, p2, lr]
      exact hZ
  have l1 := lg2_1 c2
  simp only [↓sU, sD, reduceEqDiff, ↓reduceIte, reduceAdd, evQ_faddr, faddr_ptr, l1]
  refine wpo_call ?_
  simp only [↓sU, sD, reduceEqDiff, ↓reduceIte, reduceAdd]
  refine wpf_mono (rowsF_spec H (slG_cells1 hv)) ?_
  rintro _ X ⟨hX, bb, rfl, lb1, lb2, gb⟩
  have sX := s12.trans hX
  have cX := (hX.2 _ (show S.nx < S2.nx by omega)).trans c2
  have rX := (hX.2 _ (show S1.nx < S2.nx by omega)).trans r2
  have nX := hX.1
  try simp only [↓sU, sD, reduceEqDiff, ↓reduceIte, reduceAdd]
  refine wpc_block (rng_rows (S := S) (b := bb) (L := L) (v := v) (J := TcJ S X.nx S.nx S1.nx b v M L) (R := TcR S X.nx S1.nx (shsE M L)) H rfl (by simp only [↓sU, sD, reduceEqDiff, ↓reduceIte, reduceAdd]) hv hL gb lb2 (fun i Y h => ⟨h.1, h.2.1⟩) ?_ ?_ ?_ ?_ ?_ ?_)
  · rintro i Y Y' ⟨h1, h2, h3, h4, h5⟩ hn hk
    exact ⟨⟨Nat.le_trans h1.1 hn, fun c hc => by rw [hk c (by have := sX.1; omega)]; exact h1.2 c hc⟩, by omega, by rw [hk _ (by omega)]; exact h3, by rw [hk _ (by omega)]; exact h4, h5⟩
  · rintro Y Y' ⟨h1, h2, h3⟩ hn hk
    exact ⟨⟨Nat.le_trans h1.1 hn, fun c hc => by rw [hk c (by have := sX.1; omega)]; exact h1.2 c hc⟩, by omega, by rw [hk _ (by omega)]; exact h3⟩
  · intro Y hn hk
    exact ⟨⟨by have := sX.1; omega, fun c hc => by rw [hk c (by have := sX.1; omega)]; exact sX.2 c hc⟩, hn, by rw [hk _ (by omega)]; exact cX, by rw [hk _ (by omega)]; exact rX, fun j hj => absurd hj (Nat.not_lt_zero j)⟩
  rotate_left
  · rintro Y ⟨h1, h2, h3, h4, h5⟩
    simp only [↓sU, sD, reduceEqDiff, ↓reduceIte, reduceAdd]
    exact .inl ⟨h1, h4, shsE_all h5⟩
  · rintro Y ⟨h1, h2, h3⟩
    simp only [↓sU, sD, reduceEqDiff, ↓reduceIte, reduceAdd]
    exact .inr ⟨h1, h3⟩
  rintro i a Y hlt hJY hrow
  refine wpc_reg ?_
  simp only [↓sU, sD, reduceEqDiff, ↓reduceIte, reduceAdd]
  intro bl
  generalize hZ : (⟨Y.h.set X.nx bl, Y.nx⟩ : St) = Z
  have zl : Z.h.get X.nx = bl := by rw [← hZ]; simp only; rw [T.get_set, if_pos rfl]
  have zk : ∀ c, c ≠ X.nx → Z.h.get c = Y.h.get c := fun c hc => by rw [← hZ]; simp only; rw [T.get_set, if_neg hc]
  have zn : Z.nx = Y.nx := by rw [← hZ]
  clear hZ
  obtain ⟨h1, h2, h3, h4, hok⟩ := hJY
  have sZ : Same S Z := ⟨by rw [zn]; exact h1.1, fun c hc => by rw [zk c (by have := sX.1; omega)]; exact h1.2 c hc⟩
  have cZ := (zk S.nx (by omega)).trans h3
  have rZ := (zk S1.nx (by omega)).trans h4
  have hrowZ := hrow.same sZ
  rw [← zn] at h2 ⊢
  clear h1 h3 h4 zk zn
  have hat : shE M (L.getD i []) ≠ 0 → shsE M L = shE M (L.getD i []) := shsE_at hlt hok
  have hnext : shE M (L.getD i []) = 0 → ∀ j, j < i + 1 → shE M (L.getD j []) = 0 := fun h j hj => by
    by_cases e : j = i
    · subst e; exact h
    · exact hok j (by omega)
  generalize L.getD i [] = l at *
  -- the error is stored
  have stop : ∀ {F : Fr} {e : Int} {Q : Out → Act' → St → Prop}, tmpV 2 F = .ptr S1.nx 0 → (∀ X', X'.h.get X.nx = bl → Z.nx ≤ X'.nx → TcR S X.nx S1.nx e X' → Q .ret ⟨F, true⟩ X') → wpc fns (.seq (.reg [⟨none, .x (.st 1 (.t 2) (.c (.int .i64 e))), none, 0⟩]) .ret) ⟨F, true⟩ Z Q := fun {F e Q} p2 h => by
    refine wsr ?_
    refine wpo_st (b := S1.nx) (cs' := [.int .i64 e]) (by simp only [↓sU, sD, reduceEqDiff, ↓reduceIte, reduceAdd, p2]) (by simp only [↓sU, sD, reduceEqDiff, ↓reduceIte, reduceAdd]; rfl) rZ rfl rfl ?_
    intro X' x1 x2 x3
    simp only [↓sU, sD, reduceEqDiff, ↓reduceIte, reduceAdd]
    refine wpc_ret ?_
    exact h X' (by rw [x1.2 _ h2 (by omega)]; exact zl) (by omega) ⟨x1.same sZ (by omega), by omega, x3⟩
  have l0 := lg2_0 cZ
  refine wpc_block (wpc_seq (wpc_seq (wpc_reg ?_)))
  by_cases hl1 : l.length < 1
  · have h3 := shE_len (M := M) (.inl hl1)
    simp only [↓sU, sD, reduceEqDiff, ↓reduceIte, reduceAdd, hrowZ.len, Int.ofNat_eq_natCast, decide_eq_true (show ((l.length : Nat) : Int) < 1 by omega)]
    refine wpc_yes (by simp only [↓sU, sD, reduceEqDiff, ↓reduceIte, reduceAdd]) ?_
    refine stop (by simp only [↓sU, sD, reduceEqDiff, ↓reduceIte, reduceAdd]) fun X' e1 e2 e3 => ?_
    simp only [↓sU, sD, reduceEqDiff, ↓reduceIte, reduceAdd, e1]
    exact ⟨e2, by rw [hat (by rw [h3]; decide), h3]; first | exact e3 | exact .inr e3⟩
  by_cases hl2 : 10 < l.length
  · have h3 := shE_len (M := M) (.inr hl2)
    simp only [↓sU, sD, reduceEqDiff, ↓reduceIte, reduceAdd, hrowZ.len, Int.ofNat_eq_natCast, decide_eq_false (show ¬ ((l.length : Nat) : Int) < 1 by omega)]
    refine wpc_yes (by simp only [↓sU, sD, reduceEqDiff, ↓reduceIte, reduceAdd, decide_eq_true (show ((l.length : Nat) : Int) > 10 by omega)]) ?_
    refine stop (by simp only [↓sU, sD, reduceEqDiff, ↓reduceIte, reduceAdd]) fun X' e1 e2 e3 => ?_
    simp only [↓sU, sD, reduceEqDiff, ↓reduceIte, reduceAdd, e1]
    exact ⟨e2, by rw [hat (by rw [h3]; decide), h3]; first | exact e3 | exact .inr e3⟩
  have hln : ¬ (l.length < 1 ∨ 10 < l.length) := by omega
  simp only [↓sU, sD, reduceEqDiff, ↓reduceIte, reduceAdd, hrowZ.len, Int.ofNat_eq_natCast, decide_eq_false (show ¬ ((l.length : Nat) : Int) < 1 by omega)]
  refine wpc_non (by simp only [↓sU, sD, reduceEqDiff, ↓reduceIte, reduceAdd, decide_eq_false (show ¬ ((l.length : Nat) : Int) > 10 by omega)]) (wpc_skip ?_)
  try simp only [↓sU, sD, reduceEqDiff, ↓reduceIte, reduceAdd]
  refine wsr ?_
  simp only [↓sU, sD, reduceEqDiff, ↓reduceIte, reduceAdd]
  refine wpc_seq (wpc_mono (Q := fun o A' Y2 => (o = .normal ∧ A'.inr = true ∧ Y2 = Z ∧ Seen34 M l l.length ∧ tmpV 1 A'.F = .ptr S.nx 0 ∧ tmpV 2 A'.F = .ptr S1.nx 0 ∧ tmpV 4 A'.F = .int .i64 l.sum) ∨ (o = .ret ∧ Y2.h.get X.nx = bl ∧ Z.nx ≤ Y2.nx ∧ TcR S X.nx S1.nx (shsE M L) Y2)) (wpc_seq (wpc_reg ?_)) ?_)
  rotate_left
  · rintro o ⟨F, inr⟩ Y2 (⟨rfl, q0, rfl, hsn, p1, p2, p4⟩ | ⟨rfl, e1, e2, e3⟩)
    · simp only at q0 p1 p2 p4
      subst q0
      have hall := all_getD hsn
      try simp only [↓sU, sD, reduceEqDiff, ↓reduceIte, reduceAdd]
      refine wsr ?_
      simp only [↓sU, sD, reduceEqDiff, ↓reduceIte, reduceAdd, p1, p4, evQ_faddr, faddr_ptr, l0, hsh]
      by_cases hs : l.sum = (M : Int)
      · refine wpc_non (by simp only [↓sU, sD, reduceEqDiff, ↓reduceIte, reduceAdd, decide_eq_false (show ¬ l.sum ≠ ((M : Nat) : Int) from fun h => h hs)]) (wpc_skip ?_)
        simp only [↓sU, sD, reduceEqDiff, ↓reduceIte, reduceAdd, zl]
        exact ⟨Nat.le_refl _, .inl ⟨sZ, h2, cZ, rZ, hnext (shE_ok hln hall hs)⟩⟩
      · have h3 := shE_sum hln hall hs
        refine wpc_yes (by simp only [↓sU, sD, reduceEqDiff, ↓reduceIte, reduceAdd, decide_eq_true (show l.sum ≠ ((M : Nat) : Int) from hs)]) ?_
        refine stop (by simp only [↓sU, sD, reduceEqDiff, ↓reduceIte, reduceAdd, p2]) fun X' e1 e2 e3 => ?_
        simp only [↓sU, sD, reduceEqDiff, ↓reduceIte, reduceAdd, e1]
        exact ⟨e2, by rw [hat (by rw [h3]; decide), h3]; first | exact e3 | exact .inr e3⟩
    · simp only [↓sU, sD, reduceEqDiff, ↓reduceIte, reduceAdd, e1]
      exact ⟨e2, .inr e3⟩
  simp only [↓sU, sD, reduceEqDiff, ↓reduceIte, reduceAdd, hrowZ.len, Int.ofNat_eq_natCast]
  refine wpc_block (wpc_loop (TcK Z (putF (some 2) (putF (some 1) T.e (.ptr S.nx 0)) (.ptr S1.nx 0)) a M l) ?_ l.length _ _ ⟨rfl, rfl, 0, by omega, fun q hq => absurd hq (Nat.not_lt_zero q), by simp only [↓sU, sD, reduceEqDiff, ↓reduceIte, reduceAdd], by simp only [↓sU, sD, reduceEqDiff, ↓reduceIte, reduceAdd], by simp only [↓sU, sD, reduceEqDiff, ↓reduceIte, reduceAdd]; try rfl, by simp only [↓sU, sD, reduceEqDiff, ↓reduceIte, reduceAdd], by simp only [↓sU, sD, reduceEqDiff, ↓reduceIte, reduceAdd]; try rfl, by simp only [↓sU, sD, reduceEqDiff, ↓reduceIte, reduceAdd]; try rfl⟩)
  rintro k' ⟨F, inr⟩ _ ⟨q0, rfl, j, hjk, hsn, p1, p2, p4, p31, p32, p33⟩
  simp only [↓sU, sD, reduceEqDiff, ↓reduceIte, reduceAdd] at q0 p1 p2 p4 p31 p32 p33
  subst q0
  refine wsr ?_
  simp only [↓sU, sD, reduceEqDiff, ↓reduceIte, reduceAdd, p32, p33]
  by_cases hj : j < l.length
  rotate_left
  · refine wpc_seq (wpc_non (by simp only [↓sU, sD, reduceEqDiff, ↓reduceIte, reduceAdd, decide_eq_false (show ¬ (j : Int) < ((l.length : Nat) : Int) by omega)]) (wpc_exit ?_))
    simp only [↓sU, sD, reduceEqDiff, ↓reduceIte, reduceAdd]
    obtain rfl : j = l.length := by omega
    rw [List.take_length] at p4
    exact .inl ⟨hsn, p1, p2, p4⟩
  refine wpc_seq (wpc_yes (by simp only [↓sU, sD, reduceEqDiff, ↓reduceIte, reduceAdd, decide_eq_true (show (j : Int) < ((l.length : Nat) : Int) by omega)]) (wpc_skip ?_))
  try simp only [↓sU, sD, reduceEqDiff, ↓reduceIte, reduceAdd]
  have ia := hrowZ.iaddr hj
  have la := hrowZ.ld hj
  have w1 : IntKind.i64.wrap ((j : Int) + 1) = ((j + 1 : Nat) : Int) := by rw [wrap_i64 (by omega) (by omega)]; omega
  have hbad : (l.getD j 0 < 0 ∨ (M : Int) < l.getD j 0) → shE M l = 2 := fun h => shE_bad hln ⟨_, mem_getD hj, h⟩
  refine wpc_seq (wpc_block (wpc_seq (wpc_reg ?_)))
  simp only [↓sU, sD, reduceEqDiff, ↓reduceIte, reduceAdd, p31, p33, natOf_cast, ia, la]
  refine wss ?_
  by_cases hx1 : l.getD j 0 < 0
  · have h3 := hbad (.inl hx1)
    simp only [↓sU, sD, reduceEqDiff, ↓reduceIte, reduceAdd, decide_eq_true hx1]
    refine wpc_yes (by simp only [↓sU, sD, reduceEqDiff, ↓reduceIte, reduceAdd]) ?_
    refine stop (by simp only [↓sU, sD, reduceEqDiff, ↓reduceIte, reduceAdd, p2]) fun X' e1 e2 e3 => ?_
    simp only [↓sU, sD, reduceEqDiff, ↓reduceIte, reduceAdd, e1]
    exact .inr ⟨e2, by rw [hat (by rw [h3]; decide), h3]; exact e3⟩
  by_cases hx2 : (M : Int) < l.getD j 0
  · have h3 := hbad (.inr hx2)
    simp only [↓sU, sD, reduceEqDiff, ↓reduceIte, reduceAdd, p1, evQ_faddr, faddr_ptr, l0, hsh, decide_eq_false hx1]
    refine wpc_yes (by simp only [↓sU, sD, reduceEqDiff, ↓reduceIte, reduceAdd, decide_eq_true (show l.getD j 0 > ((M : Nat) : Int) from hx2)]) ?_
    refine stop (by simp only [↓sU, sD, reduceEqDiff, ↓reduceIte, reduceAdd, p2]) fun X' e1 e2 e3 => ?_
    simp only [↓sU, sD, reduceEqDiff, ↓reduceIte, reduceAdd, e1]
    exact .inr ⟨e2, by rw [hat (by rw [h3]; decide), h3]; exact e3⟩
  simp only [↓sU, sD, reduceEqDiff, ↓reduceIte, reduceAdd, p1, evQ_faddr, faddr_ptr, l0, hsh, decide_eq_false hx1]
  refine wpc_non (by simp only [↓sU, sD, reduceEqDiff, ↓reduceIte, reduceAdd, decide_eq_false (show ¬ l.getD j 0 > ((M : Nat) : Int) from hx2)]) (wpc_skip ?_)
  try simp only [↓sU, sD, reduceEqDiff, ↓reduceIte, reduceAdd]
  have hsn' := hsn.next (by omega) (by omega)
  have htb := take_bd hM.2 (show j + 1 ≤ l.length by omega) hsn'
  have htk := sum_take hj
  have w2 : IntKind.i64.wrap ((l.take j).sum + l.getD j 0) = (l.take (j + 1)).sum := by rw [← htk]; exact wrap_i64 (by omega) (by omega)
  refine wpc_reg ?_
  simp only [↓sU, sD, reduceEqDiff, ↓reduceIte, reduceAdd, p4, w2]
  refine wpc_reg ?_
  simp only [↓sU, sD, reduceEqDiff, ↓reduceIte, reduceAdd, p33, w1]
  exact ⟨k' - 1, by omega, rfl, rfl, j + 1, by omega, hsn', by simp only [↓sU, sD, reduceEqDiff, ↓reduceIte, reduceAdd, p1], by simp only [↓sU, sD, reduceEqDiff, ↓reduceIte, reduceAdd, p2], by simp only [↓sU, sD, reduceEqDiff, ↓reduceIte, reduceAdd], by simp only [↓sU, sD, reduceEqDiff, ↓reduceIte, reduceAdd, p31], by simp only [↓sU, sD, reduceEqDiff, ↓reduceIte, reduceAdd, p32], by simp only [↓sU, sD, reduceEqDiff, ↓reduceIte, reduceAdd]⟩
end Go.Ev.Gl

namespace Go.Ev.Gl
variable {fns : T AFn}

/-! ## Whether a table fits a game -/
def FtOk (g : PGame) (L : List (List Int)) (i : Nat) : Prop := ∀ j, j < i → (((L.getD j []).length : Nat) : Int) = (infoAt g (j : Int)).actions
theorem FtOk.next {g : PGame} {L : List (List Int)} {i : Nat} (h : FtOk g L i) (h1 : (((L.getD i []).length : Nat) : Int) = (infoAt g (i : Int)).actions) : FtOk g L (i + 1) := fun j hj => by
  by_cases e : j = i
  · subst e; exact h1
  · exact h j (by omega)
theorem fitE_a {g : PGame} {b : Int} {L : List (List Int)} (h : formE g ≠ 0) : fitE g b L = formE g := by unfold fitE; rw [if_pos h]
theorem fitE_b {g : PGame} {b : Int} {L : List (List Int)} (h0 : formE g = 0) (h : tabE b L ≠ 0) : fitE g b L = tabE b L := by unfold fitE; rw [if_neg (fun h => h h0), if_pos h]
theorem fitE_c {g : PGame} {b : Int} {L : List (List Int)} (h0 : formE g = 0) (h1 : tabE b L = 0) (h : L.length ≠ g.infos.length) : fitE g b L = 10 := by unfold fitE; rw [if_neg (fun h => h h0), if_neg (fun h => h h1), if_pos h]
theorem fitE_d {g : PGame} {b : Int} {L : List (List Int)} {i : Nat} (h0 : formE g = 0) (h1 : tabE b L = 0) (h2 : L.length = g.infos.length) (hi : i < L.length) (h : (((L.getD i []).length : Nat) : Int) ≠ (infoAt g (i : Int)).actions) : fitE g b L = 10 := by unfold fitE; rw [if_neg (fun h => h h0), if_neg (fun h => h h1), if_neg (fun h => h h2), if_pos ⟨i, hi, h⟩]
theorem fitE_e {g : PGame} {b : Int} {L : List (List Int)} (h0 : formE g = 0) (h1 : tabE b L = 0) (h2 : L.length = g.infos.length) (h : FtOk g L L.length) : fitE g b L = 0 := by unfold fitE; rw [if_neg (fun h => h h0), if_neg (fun h => h h1), if_neg (fun h => h h2), if_neg (by rintro ⟨i, hi, hne⟩; exact hne (h i hi))]
def FtI (Z : St) (gb : Nat) (v : AV) (g : PGame) (L : List (List Int)) (k : Nat) (A : Act') (X : St) : Prop := A.inr = false ∧ X = Z ∧ ∃ i, i + k = L.length ∧ FtOk g L i ∧ tmpV 2 A.F = .ptr gb 0 ∧ tmpV 27 A.F = v ∧ tmpV 28 A.F = .int .i64 ((L.length : Nat) : Int) ∧ tmpV 29 A.F = .int .i64 (i : Int)
set_option maxHeartbeats 4000000 in
theorem fitting_spec {S : St} {nv iv v : AV} {g : PGame} {b : Int} {L : List (List Int)} (H : Has fns) (hn : IsSlG 6 NodeE S nv g.nodes) (hi : IsSlG 2 InfoE S iv g.infos) (hv : IsSlG 1 SlE S v L) (hln : g.nodes.length ≤ 100000) (hL : L.length ≤ 10000000) :
    wpf fns (.fn 79 [] []) [.agg [.int .i64 g.players, nv, iv], .agg [.int .i64 b, v]] S fun r S' => r = .int .i64 (fitE g b L) ∧ Same S S' := by
  refine wpf_fn H.f79 (by simp) ?_
  simp only [↓sU, sD, reduceEqDiff, ↓reduceIte, reduceAdd]
  refine wsr ?_
  refine wpo_box (cs := [.int .i64 g.players, nv, iv]) rfl ?_
  intro S1 s1 n1 c1
  refine wpo_box (cs := [.int .i64 b, v]) rfl ?_
  intro S2 s2 n2 t2
  have c2 := (s2.2 _ (show S.nx < S1.nx by omega)).trans c1
  have s12 := s1.trans s2
  simp only [↓sU, sD, reduceEqDiff, ↓reduceIte, reduceAdd]
  refine wss ?_
  simp only [↓sU, sD, reduceEqDiff, ↓reduceIte, reduceAdd, lg3_a c2]
  refine wpo_call ?_
  simp only [↓sU, sD, reduceEqDiff, ↓reduceIte, reduceAdd]
  refine wpf_mono (form_spec H (IsSlG.same (E := NodeE) firm_node hn s12) (IsSlG.same (E := InfoE) firm_info hi s12) hln) ?_
  rintro _ X ⟨rfl, hX⟩
  have sX := s12.trans hX
  have cX := (hX.2 _ (show S.nx < S2.nx by omega)).trans c2
  have tX := (hX.2 _ (show S1.nx < S2.nx by omega)).trans t2
  have nX := hX.1
  try simp only [↓sU, sD, reduceEqDiff, ↓reduceIte, reduceAdd]
  refine wsr ?_
  simp only [↓sU, sD, reduceEqDiff, ↓reduceIte, reduceAdd]
  by_cases h0 : formE g = 0
  rotate_left
  · refine wpc_yes (by simp only [↓sU, sD, reduceEqDiff, ↓reduceIte, reduceAdd, decide_eq_true (show formE g ≠ 0 from h0)]) ?_
    refine wsr ?_
    simp only [↓sU, sD, reduceEqDiff, ↓reduceIte, reduceAdd]
    refine wpc_ret ?_
    simp only [↓sU, sD, reduceEqDiff, ↓reduceIte, reduceAdd, fitE_a h0]
    exact sX
  refine wpc_non (by simp only [↓sU, sD, reduceEqDiff, ↓reduceIte, reduceAdd, decide_eq_false (show ¬ formE g ≠ 0 from fun h => h h0)]) (wpc_skip ?_)
  try simp only [↓sU, sD, reduceEqDiff, ↓reduceIte, reduceAdd]
  refine wss ?_
  simp only [↓sU, sD, reduceEqDiff, ↓reduceIte, reduceAdd, lg2_a tX]
  refine wpo_call ?_
  simp only [↓sU, sD, reduceEqDiff, ↓reduceIte, reduceAdd]
  refine wpf_mono (tab_spec H (IsSlG.same (E := SlE) firm_sl hv sX) hL) ?_
  rintro _ Z ⟨rfl, hZ⟩
  have sZ := sX.trans hZ
  have cZ := (hZ.2 _ (show S.nx < X.nx by omega)).trans cX
  have tZ := (hZ.2 _ (show S1.nx < X.nx by omega)).trans tX
  try simp only [↓sU, sD, reduceEqDiff, ↓reduceIte, reduceAdd]
  refine wsr ?_
  simp only [↓sU, sD, reduceEqDiff, ↓reduceIte, reduceAdd]
  by_cases h1 : tabE b L = 0
  rotate_left
  · refine wpc_yes (by simp only [↓sU, sD, reduceEqDiff, ↓reduceIte, reduceAdd, decide_eq_true (show tabE b L ≠ 0 from h1)]) ?_
    refine wsr ?_
    simp only [↓sU, sD, reduceEqDiff, ↓reduceIte, reduceAdd]
    refine wpc_ret ?_
    simp only [↓sU, sD, reduceEqDiff, ↓reduceIte, reduceAdd, fitE_b h0 h1]
    exact sZ
  refine wpc_non (by simp only [↓sU, sD, reduceEqDiff, ↓reduceIte, reduceAdd, decide_eq_false (show ¬ tabE b L ≠ 0 from fun h => h h1)]) (wpc_skip ?_)
  try simp only [↓sU, sD, reduceEqDiff, ↓reduceIte, reduceAdd]
  refine wss ?_
  simp only [↓sU, sD, reduceEqDiff, ↓reduceIte, reduceAdd, evQ_faddr, faddr_ptr, lg2_1 tZ, lg3_2 cZ, hv.len, hi.len, Int.ofNat_eq_natCast]
  by_cases h2 : L.length = g.infos.length
  rotate_left
  · refine wpc_yes (by simp only [↓sU, sD, reduceEqDiff, ↓reduceIte, reduceAdd, decide_eq_true (show ((L.length : Nat) : Int) ≠ ((g.infos.length : Nat) : Int) by omega)]) ?_
    refine wsr ?_
    simp only [↓sU, sD, reduceEqDiff, ↓reduceIte, reduceAdd]
    refine wpc_ret ?_
    simp only [↓sU, sD, reduceEqDiff, ↓reduceIte, reduceAdd, fitE_c h0 h1 h2]
    exact sZ
  refine wpc_non (by simp only [↓sU, sD, reduceEqDiff, ↓reduceIte, reduceAdd, decide_eq_false (show ¬ ((L.length : Nat) : Int) ≠ ((g.infos.length : Nat) : Int) by omega)]) (wpc_skip ?_)
  try simp only [↓sU, sD, reduceEqDiff, ↓reduceIte, reduceAdd]
  refine wpc_seq (wpc_mono (Q := fun o A' Y => (o = .normal ∧ Y = Z ∧ FtOk g L L.length) ∨ (o = .ret ∧ Y = Z ∧ tmpV 4 A'.F = .int .i64 10 ∧ fitE g b L = 10)) (wpc_seq (wpc_reg ?_)) ?_)
  rotate_left
  · rintro o ⟨F, inr⟩ Y (⟨rfl, rfl, hok⟩ | ⟨rfl, rfl, p4, he⟩)
    · try simp only [↓sU, sD, reduceEqDiff, ↓reduceIte, reduceAdd]
      refine wsr ?_
      simp only [↓sU, sD, reduceEqDiff, ↓reduceIte, reduceAdd]
      refine wpc_ret ?_
      simp only [↓sU, sD, reduceEqDiff, ↓reduceIte, reduceAdd, fitE_e h0 h1 h2 hok]
      exact sZ
    · simp only at p4
      simp only [↓sU, sD, reduceEqDiff, ↓reduceIte, reduceAdd, p4, he]
      exact sZ
  simp only [↓sU, sD, reduceEqDiff, ↓reduceIte, reduceAdd, evQ_faddr, faddr_ptr, lg2_1 tZ, hv.len, Int.ofNat_eq_natCast]
  refine wpc_block (wpc_loop (FtI Z S.nx v g L) ?_ L.length _ _ ⟨rfl, rfl, 0, by omega, fun j hj => absurd hj (Nat.not_lt_zero j), by simp only [↓sU, sD, reduceEqDiff, ↓reduceIte, reduceAdd], by simp only [↓sU, sD, reduceEqDiff, ↓reduceIte, reduceAdd], by simp only [↓sU, sD, reduceEqDiff, ↓reduceIte, reduceAdd]; try rfl, by simp only [↓sU, sD, reduceEqDiff, ↓reduceIte, reduceAdd]; try rfl⟩)
  rintro k ⟨F, inr⟩ _ ⟨q0, rfl, i, hik, hok, p2, p27, p28, p29⟩
  simp only at q0 p2 p27 p28 p29
  subst q0
  refine wsr ?_
  simp only [↓sU, sD, reduceEqDiff, ↓reduceIte, reduceAdd, p28, p29]
  by_cases hlt : i < L.length
  rotate_left
  · refine wpc_seq (wpc_non (by simp only [↓sU, sD, reduceEqDiff, ↓reduceIte, reduceAdd, decide_eq_false (show ¬ (i : Int) < ((L.length : Nat) : Int) by omega)]) (wpc_exit ?_))
    simp only [↓sU, sD, reduceEqDiff, ↓reduceIte, reduceAdd]
    obtain rfl : i = L.length := by omega
    exact .inl hok
  refine wpc_seq (wpc_yes (by simp only [↓sU, sD, reduceEqDiff, ↓reduceIte, reduceAdd, decide_eq_true (show (i : Int) < ((L.length : Nat) : Int) by omega)]) (wpc_skip ?_))
  try simp only [↓sU, sD, reduceEqDiff, ↓reduceIte, reduceAdd]
  obtain ⟨_, br, qr, hia, lbr, _, ⟨a, rfl, hrow⟩, _, hlf⟩ := IsSlG.at (IsSlG.same (E := SlE) firm_sl hv sZ) (by decide) (get_some hlt)
  have hld := hlf 0 a rfl
  rw [Nat.add_zero] at hld
  obtain ⟨ei, bi, qi, hii, hbi, _, hei, _, hfi⟩ := IsSlG.at (IsSlG.same (E := InfoE) firm_info hi sZ) (by decide) (infoAt_some (show i < g.infos.length by omega))
  have hei : ei = [.int .i64 (infoAt g (i : Int)).player, .int .i64 (infoAt g (i : Int)).actions] := hei
  subst hei
  have l1 := hfi 1 _ rfl
  have w1 : IntKind.i64.wrap ((i : Int) + 1) = ((i + 1 : Nat) : Int) := by rw [wrap_i64 (by omega) (by omega)]; omega
  refine wpc_seq (wpc_block (wpc_seq (wpc_reg ?_)))
  simp only [↓sU, sD, reduceEqDiff, ↓reduceIte, reduceAdd, p27, p29, natOf_cast, hia, hld]
  refine wsr ?_
  simp only [↓sU, sD, reduceEqDiff, ↓reduceIte, reduceAdd, p2, hrow.len, Int.ofNat_eq_natCast, evQ_faddr, faddr_ptr, lg3_2 cZ, natOf_cast, hii, l1]
  by_cases hx : (((L.getD i []).length : Nat) : Int) = (infoAt g (i : Int)).actions
  · refine wpc_non (by simp only [↓sU, sD, reduceEqDiff, ↓reduceIte, reduceAdd, decide_eq_false (show ¬ (((L.getD i []).length : Nat) : Int) ≠ (infoAt g (i : Int)).actions from fun h => h hx)]) (wpc_skip ?_)
    try simp only [↓sU, sD, reduceEqDiff, ↓reduceIte, reduceAdd]
    refine wpc_reg ?_
    simp only [↓sU, sD, reduceEqDiff, ↓reduceIte, reduceAdd, p29, w1]
    exact ⟨k - 1, by omega, rfl, rfl, i + 1, by omega, hok.next hx, by simp only [↓sU, sD, reduceEqDiff, ↓reduceIte, reduceAdd, p2], by simp only [↓sU, sD, reduceEqDiff, ↓reduceIte, reduceAdd, p27], by simp only [↓sU, sD, reduceEqDiff, ↓reduceIte, reduceAdd, p28], by simp only [↓sU, sD, reduceEqDiff, ↓reduceIte, reduceAdd]⟩
  · have he := fitE_d h0 h1 h2 hlt hx
    refine wpc_yes (by simp only [↓sU, sD, reduceEqDiff, ↓reduceIte, reduceAdd, decide_eq_true (show (((L.getD i []).length : Nat) : Int) ≠ (infoAt g (i : Int)).actions from hx)]) ?_
    refine wsr ?_
    simp only [↓sU, sD, reduceEqDiff, ↓reduceIte, reduceAdd]
    refine wpc_ret ?_
    simp only [↓sU, sD, reduceEqDiff, ↓reduceIte, reduceAdd]
    exact .inr he
end Go.Ev.Gl
