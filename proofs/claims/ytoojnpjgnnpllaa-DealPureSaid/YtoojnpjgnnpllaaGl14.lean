/- Contracts (14): rational numbers, the statements' tools, the law. -/
import Derived.Test.YtoojnpjgnnpllaaGl13
open Nat (reduceEqDiff reduceAdd)
set_option maxHeartbeats 4000000
set_option linter.unusedSimpArgs false
set_option linter.unusedVariables false
namespace Go.Ev.Gl
variable {fns : T AFn}

/-! ## Whether a table fits a game: the reference -/
end Go.Ev.Gl

namespace Go.Ev.Gl
variable {fns : T AFn}

/-! ## The reference's spread -/
/-- the number of seeds and the error of a game with a table -/
noncomputable def sprE (g : PGame) (b : Int) (L : List (List Int)) (pr : Nat → Nat) : Int := if fitE g b L = 0 then spR (radM b) g pr else fitE g b L
noncomputable def sprN (g : PGame) (b : Int) (L : List (List Int)) (pr : Nat → Nat) : Int := if fitE g b L = 0 then spN (radM b) g pr else 0
end Go.Ev.Gl

namespace Go.Ev.Gl
variable {fns : T AFn}

/-! ## The program's Spread and Walk -/
theorem path_valS {g : PGame} {b : Int} {v w : AV} {L : List (List Int)} : ∀ {k i s : Nat}, pathL g (decS b v L) k i s = pathL g (decS b w L) k i s
  | 0, _, _ => rfl
  | k + 1, i, s => by
    have h1 : (decAt (decS b v L) (nodeAt g i)).rad (nodeAt g i) = (decAt (decS b w L) (nodeAt g i)).rad (nodeAt g i) := by unfold decAt; split <;> rfl
    have h2 : ∀ d, (decAt (decS b v L) (nodeAt g i)).chs (nodeAt g i) d = (decAt (decS b w L) (nodeAt g i)).chs (nodeAt g i) d := fun d => by unfold decAt; split <;> rfl
    simp only [pathL, h1, h2, path_valS (v := v) (w := w) (k := k)]
noncomputable def walkE (g : PGame) (b : Int) (L : List (List Int)) (pr : Nat → Nat) (s : Int) : Int := if sprE g b L pr ≠ 0 then sprE g b L pr else if s < 0 ∨ sprN g b L pr ≤ s then 2 else 0
theorem sprE_zero {g : PGame} {b : Int} {L : List (List Int)} {pr : Nat → Nat} (h : sprE g b L pr = 0) : fitE g b L = 0 := by
  by_cases h0 : fitE g b L = 0
  · exact h0
  · unfold sprE at h
    rw [if_neg h0] at h
    exact absurd h h0
def tabL (g : PGame) (b : Int) (L : List (List Int)) (s : Int) : List Int := pathL g (decS b .nilsl L) g.nodes.length 0 s.toNat
def WalkR34 (S : St) (g : PGame) (b : Int) (L : List (List Int)) (pr : Nat → Nat) (s : Int) (r : AV) (X : St) : Prop := Same S X ∧ ∃ x, r = .tup [x, .int .i64 (walkE g b L pr s)] ∧ (walkE g b L pr s ≠ 0 → x = .nilsl) ∧ (walkE g b L pr s = 0 → IsSl .i64 X x (tabL g b L s))
set_option maxHeartbeats 4000000 in
theorem spreadP_spec {S : St} {nv iv v : AV} {g : PGame} {b : Int} {L : List (List Int)} {pr : Nat → Nat} (H : Has fns) (hn : IsSlG 6 NodeE S nv g.nodes) (hi : IsSlG 2 InfoE S iv g.infos) (hv : IsSlG 1 SlE S v L) (hln : g.nodes.length ≤ 100000) (hL : L.length ≤ 10000000) (hpr : fitE g b L = 0 → ProdM (radM b) g pr) :
    wpf fns (.fn 33 [] []) [.agg [.int .i64 g.players, nv, iv], .agg [.int .i64 b, v]] S fun r S' => Same S S' ∧ r = .tup [.int .i64 (sprN g b L pr), .int .i64 (sprE g b L pr)] := by
  refine wpf_fn H.f33 (by simp) ?_
  simp only [↓sU, sD, reduceEqDiff, ↓reduceIte, reduceAdd]
  refine wsr ?_
  refine wpo_box (cs := [.int .i64 g.players, nv, iv]) rfl ?_
  intro S1 s1 n1 c1
  refine wpo_box (cs := [.int .i64 b, v]) rfl ?_
  intro S2 s2 n2 t2
  have c2 := (s2.2 _ (show S.nx < S1.nx by omega)).trans c1
  have s12 := s1.trans s2
  simp only [↓sU, sD, reduceEqDiff, ↓reduceIte, reduceAdd]
  refine wss ?_
  simp only [↓sU, sD, reduceEqDiff, ↓reduceIte, reduceAdd, lg3_a c2, lg2_a t2]
  refine wpo_call ?_
  simp only [↓sU, sD, reduceEqDiff, ↓reduceIte, reduceAdd]
  refine wpf_mono (fitting_spec H (IsSlG.same (E := NodeE) firm_node hn s12) (IsSlG.same (E := InfoE) firm_info hi s12) (IsSlG.same (E := SlE) firm_sl hv s12) hln hL) ?_
  rintro _ X ⟨rfl, hX⟩
  have nX := hX.1
  have sX := s12.trans hX
  have cX := (hX.2 _ (show S.nx < S2.nx by omega)).trans c2
  have tX := (hX.2 _ (show S1.nx < S2.nx by omega)).trans t2
  try simp only [↓sU, sD, reduceEqDiff, ↓reduceIte, reduceAdd]
  refine wsr ?_
  simp only [↓sU, sD, reduceEqDiff, ↓reduceIte, reduceAdd]
  by_cases h0 : fitE g b L = 0
  rotate_left
  · have e1 : sprN g b L pr = 0 := by unfold sprN; rw [if_neg h0]
    have e2 : sprE g b L pr = fitE g b L := by unfold sprE; rw [if_neg h0]
    refine wpc_yes (by simp only [↓sU, sD, reduceEqDiff, ↓reduceIte, reduceAdd, decide_eq_true (show fitE g b L ≠ 0 from h0)]) ?_
    refine wsr ?_
    simp only [↓sU, sD, reduceEqDiff, ↓reduceIte, reduceAdd]
    refine wpc_ret ?_
    simp only [↓sU, sD, reduceEqDiff, ↓reduceIte, reduceAdd, e1, e2]
    exact sX
  refine wpc_non (by simp only [↓sU, sD, reduceEqDiff, ↓reduceIte, reduceAdd, decide_eq_false (show ¬ fitE g b L ≠ 0 from fun h => h h0)]) (wpc_skip ?_)
  try simp only [↓sU, sD, reduceEqDiff, ↓reduceIte, reduceAdd]
  have e1 : sprN g b L pr = spN (radM b) g pr := by unfold sprN; rw [if_pos h0]
  have e2 : sprE g b L pr = spR (radM b) g pr := by unfold sprE; rw [if_pos h0]
  rw [e1, e2]
  obtain ⟨hf0, T⟩ := goodT_of h0
  have G := goodK_of hf0
  have hm : isLoad (.mkIface 119 (.t 14)) = false := rfl
  have hvX := IsSlG.same (E := SlE) firm_sl hv sX
  refine wsr ?_
  simp only [↓sU, sD, reduceEqDiff, ↓reduceIte, reduceAdd, lg3_a cX, lg2_a tX, hm]
  rw [mkF (v := .agg [.int .i64 b, v]) (by simp only [↓sU, sD, reduceEqDiff, ↓reduceIte, reduceAdd])]
  simp only [↓sU, sD, reduceEqDiff, ↓reduceIte, reduceAdd]
  refine wpo_call ?_
  simp only [↓sU, sD, reduceEqDiff, ↓reduceIte, reduceAdd]
  refine wpf_mono (spread_spec (D := decS b v L) (M := radM b) (pr := pr) H G (IsSlG.same (E := NodeE) firm_node hn sX) (fun i hi hk => decS_h H G hvX T hi hk) (fun _ => rfl) (radM_bd T.b2) (hpr h0)) ?_
  rintro _ Y ⟨hY, rfl⟩
  simp only [↓sU, sD, reduceEqDiff, ↓reduceIte, reduceAdd, ex0, ex1]
  refine wpc_ret ?_
  simp only [↓sU, sD, reduceEqDiff, ↓reduceIte, reduceAdd]
  exact sX.trans hY
set_option maxHeartbeats 4000000 in
theorem walkP_fresh {S : St} {nv iv v : AV} {g : PGame} {b : Int} {L : List (List Int)} {pr : Nat → Nat} {s : Int} (H : Has fns) (hn : IsSlG 6 NodeE S nv g.nodes) (hi : IsSlG 2 InfoE S iv g.infos) (hv : IsSlG 1 SlE S v L) (hln : g.nodes.length ≤ 100000) (hL : L.length ≤ 10000000) (hs : s ≤ 9223372036854775807) (hpr : fitE g b L = 0 → ProdM (radM b) g pr) :
    wpf fns (.fn 35 [] []) [.agg [.int .i64 g.players, nv, iv], .agg [.int .i64 b, v], .int .i64 s] S fun r X => WalkR34 S g b L pr s r X ∧ ∀ x y c, r = .tup [x, y] → blkOf x = some c → S.nx ≤ c := by
  refine wpf_fn H.f35 (by simp) ?_
  simp only [↓sU, sD, reduceEqDiff, ↓reduceIte, reduceAdd]
  refine wsr ?_
  refine wpo_box (cs := [.int .i64 g.players, nv, iv]) rfl ?_
  intro S1 s1 n1 c1
  refine wpo_box (cs := [.int .i64 b, v]) rfl ?_
  intro S2 s2 n2 t2
  have c2 := (s2.2 _ (show S.nx < S1.nx by omega)).trans c1
  have s12 := s1.trans s2
  simp only [↓sU, sD, reduceEqDiff, ↓reduceIte, reduceAdd]
  refine wsr ?_
  simp only [↓sU, sD, reduceEqDiff, ↓reduceIte, reduceAdd, lg3_a c2, lg2_a t2]
  refine wpo_call ?_
  simp only [↓sU, sD, reduceEqDiff, ↓reduceIte, reduceAdd]
  refine wpf_mono (spreadP_spec (pr := pr) H (IsSlG.same (E := NodeE) firm_node hn s12) (IsSlG.same (E := InfoE) firm_info hi s12) (IsSlG.same (E := SlE) firm_sl hv s12) hln hL hpr) ?_
  rintro _ X ⟨hX, rfl⟩
  have nX := hX.1
  have sX := s12.trans hX
  have cX := (hX.2 _ (show S.nx < S2.nx by omega)).trans c2
  have tX := (hX.2 _ (show S1.nx < S2.nx by omega)).trans t2
  simp only [↓sU, sD, reduceEqDiff, ↓reduceIte, reduceAdd, ex0, ex1]
  refine wss ?_
  simp only [↓sU, sD, reduceEqDiff, ↓reduceIte, reduceAdd]
  by_cases h1 : sprE g b L pr = 0
  rotate_left
  · have hE : walkE g b L pr s = sprE g b L pr := by unfold walkE; rw [if_pos h1]
    refine wpc_yes (by simp only [↓sU, sD, reduceEqDiff, ↓reduceIte, reduceAdd, decide_eq_true (show sprE g b L pr ≠ 0 from h1)]) ?_
    refine wsr ?_
    simp only [↓sU, sD, reduceEqDiff, ↓reduceIte, reduceAdd]
    refine wpc_ret ?_
    simp only [↓sU, sD, reduceEqDiff, ↓reduceIte, reduceAdd]
    exact ⟨⟨sX, .nilsl, by rw [hE], fun _ => rfl, fun h => absurd (hE.symm.trans h) h1⟩, fun x y c h hc => by cases h; cases hc⟩
  refine wpc_non (by simp only [↓sU, sD, reduceEqDiff, ↓reduceIte, reduceAdd, decide_eq_false (show ¬ sprE g b L pr ≠ 0 from fun h => h h1)]) (wpc_skip ?_)
  try simp only [↓sU, sD, reduceEqDiff, ↓reduceIte, reduceAdd]
  have hE : walkE g b L pr s = if s < 0 ∨ sprN g b L pr ≤ s then 2 else 0 := by unfold walkE; rw [if_neg (fun h => h h1)]
  refine wss ?_
  by_cases hneg : s < 0
  · rw [if_pos (.inl hneg)] at hE
    simp only [↓sU, sD, reduceEqDiff, ↓reduceIte, reduceAdd, decide_eq_true hneg]
    refine wpc_yes (by simp only [↓sU, sD, reduceEqDiff, ↓reduceIte, reduceAdd]) ?_
    refine wsr ?_
    simp only [↓sU, sD, reduceEqDiff, ↓reduceIte, reduceAdd]
    refine wpc_ret ?_
    simp only [↓sU, sD, reduceEqDiff, ↓reduceIte, reduceAdd]
    exact ⟨⟨sX, .nilsl, by rw [hE], fun _ => rfl, fun h => by rw [hE] at h; cases h⟩, fun x y c h hc => by cases h; cases hc⟩
  by_cases hge : sprN g b L pr ≤ s
  · rw [if_pos (.inr hge)] at hE
    simp only [↓sU, sD, reduceEqDiff, ↓reduceIte, reduceAdd, decide_eq_false hneg]
    refine wpc_yes (by simp only [↓sU, sD, reduceEqDiff, ↓reduceIte, reduceAdd, decide_eq_true hge]) ?_
    refine wsr ?_
    simp only [↓sU, sD, reduceEqDiff, ↓reduceIte, reduceAdd]
    refine wpc_ret ?_
    simp only [↓sU, sD, reduceEqDiff, ↓reduceIte, reduceAdd]
    exact ⟨⟨sX, .nilsl, by rw [hE], fun _ => rfl, fun h => by rw [hE] at h; cases h⟩, fun x y c h hc => by cases h; cases hc⟩
  rw [if_neg (by omega)] at hE
  simp only [↓sU, sD, reduceEqDiff, ↓reduceIte, reduceAdd, decide_eq_false hneg]
  refine wpc_non (by simp only [↓sU, sD, reduceEqDiff, ↓reduceIte, reduceAdd, decide_eq_false hge]) (wpc_skip ?_)
  try simp only [↓sU, sD, reduceEqDiff, ↓reduceIte, reduceAdd]
  obtain ⟨hf0, T⟩ := goodT_of (sprE_zero h1)
  have G := goodK_of hf0
  obtain ⟨n, rfl⟩ : ∃ n : Nat, s = (n : Int) := ⟨s.toNat, by omega⟩
  have hm : isLoad (.mkIface 119 (.t 27)) = false := rfl
  have hvX := IsSlG.same (E := SlE) firm_sl hv sX
  refine wsr ?_
  simp only [↓sU, sD, reduceEqDiff, ↓reduceIte, reduceAdd, lg3_a cX, lg2_a tX, hm]
  rw [mkF (v := .agg [.int .i64 b, v]) (by simp only [↓sU, sD, reduceEqDiff, ↓reduceIte, reduceAdd])]
  simp only [↓sU, sD, reduceEqDiff, ↓reduceIte, reduceAdd]
  refine wpo_call ?_
  simp only [↓sU, sD, reduceEqDiff, ↓reduceIte, reduceAdd]
  refine wpf_mono (walked34_fresh (D := decS b v L) (s := n) H G (IsSlG.same (E := NodeE) firm_node hn sX) (fun i hi hk => decS_h H G hvX T hi hk) (by omega)) ?_
  rintro r Y ⟨hY, hr, hfr⟩
  try simp only [↓sU, sD, reduceEqDiff, ↓reduceIte, reduceAdd]
  refine wpc_ret ?_
  simp only [↓sU, sD, reduceEqDiff, ↓reduceIte, reduceAdd]
  refine ⟨⟨sX.trans hY, r, by rw [hE], fun h => absurd hE h, fun _ => ?_⟩, fun x y c h hc => by cases h; have h1 := hfr c hc; have := sX.1; omega⟩
  unfold tabL
  rw [Int.toNat_natCast, path_valS (w := v)]
  exact hr
end Go.Ev.Gl

namespace Go.Ev.Gl
variable {fns : T AFn}

/-! ## The reference's Walk -/
def wL (g : PGame) (L : List (List Int)) (i : Nat) : List Int := if (nodeAt g i).kind = 2 then L.getD (nodeAt g i).info.toNat [] else (nodeAt g i).weights
theorem wL_facts {g : PGame} {b : Int} {L : List (List Int)} (G : GoodK g) (T : GoodT g b L) {i : Nat} (hi : i < g.nodes.length) (hk3 : (nodeAt g i).kind ≠ 3) : SmallW (wL g L i) ∧ 1 ≤ (wL g L i).sum ∧ (wL g L i).length = (nodeAt g i).next.length ∧ ∀ v k s, pathL g (decS b v L) (k + 1) i s = (i : Int) :: pathL g (decS b v L) k ((nodeAt g i).next.getD (pickN (wL g L i) ((s % (wL g L i).sum.toNat : Nat) : Int)) 0).toNat (s / (wL g L i).sum.toNat) := by
  by_cases hk2 : (nodeAt g i).kind = 2
  · obtain ⟨a1, a2, a3⟩ := G.good.inf i hi hk2
    have hl := T.len
    have hb := radM_bd T.b2
    have hlt : (nodeAt g i).info.toNat < L.length := by omega
    have hr := T.row _ hlt
    rw [show (((nodeAt g i).info.toNat : Nat) : Int) = (nodeAt g i).info by omega, a3] at hr
    obtain ⟨hs, hsum⟩ := T.shs _ hlt
    have e : wL g L i = L.getD (nodeAt g i).info.toNat [] := by unfold wL; rw [if_pos hk2]
    rw [e]
    refine ⟨hs, by omega, by omega, fun v k s => ?_⟩
    rw [hsum, Int.toNat_natCast]
    simp only [pathL]
    rw [if_neg hk3]
    unfold decAt
    rw [if_neg (by omega)]
    rfl
  · have hk1 : (nodeAt g i).kind = 1 := by
      rcases G.knd i hi with h | h | h
      · exact h
      · exact absurd h hk2
      · exact absurd h hk3
    have e : wL g L i = (nodeAt g i).weights := by unfold wL; rw [if_neg hk2]
    rw [e]
    obtain ⟨hs, h1⟩ := G.small hi hk1
    exact ⟨hs, h1, G.good.wts i hi hk1, fun v k s => pathL_chance hk1⟩
end Go.Ev.Gl

namespace Go.Ev.Gl
variable {fns : T AFn}

/-! ## A row, copied behind rows of one's own -/
theorem evA_row {t : Nat} {z r : AV} {x : Opd} {F : Fr} {id : Nat} {S : St} {l : List Int} (h : IsSl .i64 S r l) (hx : x.val F = r) : evA (.bslice t 1 1 [z] [(0, x)]) F id = some (.sl id 0 1 1 false, .cells [r] false 0) := by
  show (osel (fillP (repeatL [z] 1) [(0 * 1, 1, x.val F)]) fun cs => some (AV.sl id 0 1 1 false, AB.cells cs false 0)) = _
  rw [hx]
  rcases h with ⟨_, rfl | rfl⟩ | ⟨b, off, cap, o, cs, rfl, _⟩ <;> rfl
end Go.Ev.Gl

namespace Go.Ev.Gl
variable {fns : T AFn}

/-! ## DealWalks -/
/-- rows of one's own in a block of slices that grows -/
def RowsB (S0 X : St) (pv : AV) (cs : List AV) (A : List (List Int)) : Prop := cs.length = A.length ∧ ∀ j, j < A.length → ∃ r, cs[j]? = some r ∧ IsSl .i64 X r (A.getD j []) ∧ ∀ c, blkOf r = some c → S0.nx ≤ c ∧ blkOf pv ≠ some c
theorem sl_lowB {k : IntKind} {X : St} {v : AV} {l : List Int} {c : Nat} (h : IsSl k X v l) (hc : blkOf v = some c) : c < X.nx := by
  rcases h with ⟨_, rfl | rfl⟩ | ⟨b, off, cap, o, cs, rfl, _, h3, _⟩
  · cases hc
  · cases hc
  · cases hc; exact h3
theorem RowsB.push {S0 X Z : St} {pv pv' r : AV} {cs : List AV} {A : List (List Int)} {l : List Int} (h : RowsB S0 X pv cs A) (hX : S0.nx ≤ X.nx) (hn : X.nx ≤ Z.nx) (hk : ∀ c, c < X.nx → S0.nx ≤ c → blkOf pv ≠ some c → Z.h.get c = X.h.get c) (hr : IsSl .i64 Z r l) (hb : ∀ c, blkOf r = some c → X.nx ≤ c ∧ blkOf pv' ≠ some c) (hp : ∀ c, blkOf pv' = some c → X.nx ≤ c) : RowsB S0 Z pv' (cs ++ [r]) (A ++ [l]) := by
  refine ⟨by simp [h.1], fun j hj => ?_⟩
  rw [List.length_append, List.length_singleton] at hj
  rw [getD_appL]
  by_cases e : j = A.length
  · rw [if_pos e, e, ← h.1]
    exact ⟨r, by rw [List.getElem?_append_right (Nat.le_refl _), Nat.sub_self]; rfl, hr, fun c hc => ⟨Nat.le_trans hX (hb c hc).1, (hb c hc).2⟩⟩
  · rw [if_neg e]
    obtain ⟨r', h1, h2, h3⟩ := h.2 j (by omega)
    refine ⟨r', by rw [List.getElem?_append_left (by rw [h.1]; omega)]; exact h1, sl_move h2 hn fun c hc => hk c (sl_lowB h2 hc) (h3 c hc).1 (h3 c hc).2, fun c hc => ⟨(h3 c hc).1, fun e => ?_⟩⟩
    have := hp c e
    have := sl_lowB h2 hc
    omega
theorem RowsB.is {S0 X : St} {pv : AV} {n : Nat} {cs : List AV} {A : List (List Int)} (h : RowsB S0 X pv cs A) (hg : GrW 1 S0 X pv n cs) (hn : n = A.length) : IsSlG 1 SlE X pv A := by
  subst hn
  rcases hg with ⟨rfl, h0, _⟩ | ⟨b, rfl, _, h2, h3, _⟩
  · exact .inl ⟨List.length_eq_zero_iff.1 h0, .inl rfl⟩
  · refine .inr ⟨b, 0, A.length, true, cs, rfl, Nat.le_refl _, h2, by unfold cellsAt; rw [h3]; rfl, fun i l hi => ?_⟩
    have hlt := (List.getElem?_eq_some_iff.1 hi).1
    have e : A.getD i [] = l := by rw [List.getD_eq_getElem?_getD, hi]; rfl
    obtain ⟨r, h4, h5, _⟩ := h.2 i hlt
    rw [e] at h5
    refine ⟨[r], rfl, fun j x hj => ?_, r, rfl, h5⟩
    cases j with
    | zero =>
      cases hj
      rw [Nat.zero_add, Nat.mul_one]
      exact h4
    | succ j => simp at hj
end Go.Ev.Gl

namespace Go.Ev.Gl

/-! ## A table as an argument -/
section
variable {P : Program} {σ : Env} {S : St} {w : World}
end
end Go.Ev.Gl
