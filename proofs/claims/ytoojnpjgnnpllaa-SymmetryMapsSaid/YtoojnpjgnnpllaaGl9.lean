/- Contracts (9): rational numbers, the statements' tools, the law. -/
import Derived.Test.YtoojnpjgnnpllaaGl8
open Nat (reduceEqDiff)
set_option maxHeartbeats 4000000
set_option linter.unusedSimpArgs false
set_option linter.unusedVariables false
namespace Go.Ev.Gl
variable {fns : T AFn}

/-! ## Check, of both (given the images) -/
theorem SceneB.same {S S' : St} {wb plb szb : Nat} {pv nv iv : AV} {g : PGame} {R Z : List Int} (h : SceneB S wb plb szb pv nv iv g R Z) (hs : Same S S') : SceneB S' wb plb szb pv nv iv g R Z :=
  ⟨h.w.same hs, (hs.2 _ h.bp).trans h.gp, (hs.2 _ h.bz).trans h.gz, h.lp, h.lz, Nat.lt_of_lt_of_le h.bp hs.1, Nat.lt_of_lt_of_le h.bz hs.1⟩
/-- what is wanted of the program's image -/
def ImgH (fns : Ev.T AFn) (S : St) (nv iv mv : AV) (g : PGame) (m : List Int) (ok : Prop) (P : St → St → AV → AV → Prop) : Prop :=
  formE g = 0 → m.length = g.nodes.length → InMap m g.nodes.length → ¬ dupM m → ∀ (S0 : St) (wb plb szb : Nat) (pv : AV) (T : List Trip) (Z : List Int), Same S S0 → walkG g = some T → T.length = g.nodes.length → IsSl .i64 S0 pv (T.map (·.1)) → SceneB S0 wb plb szb pv nv iv g (placeL g) Z →
    wpf fns (.fn 116 [] []) [.ptr wb 0, mv] S0 fun r S'' => Same S0 S'' ∧ ∃ x y t, r = .tup [.agg [x, y], .bool t] ∧ (t = true ↔ ok) ∧ (t = true → P S0 S'' x y)
/-- the error of a game and a map -/
noncomputable def chkE (g : PGame) (m : List Int) (ok : Prop) : Int := if formE g ≠ 0 then formE g else mapE g.nodes.length m ok
theorem check_spec {S : St} {nv iv mv : AV} {g : PGame} {m : List Int} {ok : Prop} {P : St → St → AV → AV → Prop} (H : Has fns) (hP : ∀ {S0 S1 S2 : St} {x y : AV}, P S0 S1 x y → S1.nx ≤ S2.nx → (∀ c, S0.nx ≤ c → c < S1.nx → S2.h.get c = S1.h.get c) → P S0 S2 x y) (hn : IsSlG 6 NodeE S nv g.nodes) (hi : IsSlG 2 InfoE S iv g.infos) (hm : IsSl .i64 S mv m) (hln : g.nodes.length ≤ 100000) (himg : ImgH fns S nv iv mv g m ok P) :
    wpf fns (.fn 20 [] []) [.agg [.int .i64 g.players, nv, iv], mv] S fun r S' => r = .int .i64 (chkE g m ok) ∧ Same S S' := by
  refine wpf_fn H.f20 (by simp) ?_
  simp only [↓stU, stD, reduceEqDiff, ↓reduceIte, ↓stV, stW, Nat.reduceAdd]
  refine wsr ?_
  refine wpo_box (by simp only [↓stU, stD, reduceEqDiff, ↓reduceIte, ↓stV, stW, Nat.reduceAdd]; exact cells_agg _) ?_
  intro S1 s1 n1 c1
  simp only [↓stU, stD, reduceEqDiff, ↓reduceIte, ↓stV, stW, Nat.reduceAdd]
  refine wsr ?_
  simp only [↓stU, stD, reduceEqDiff, ↓reduceIte, ↓stV, stW, Nat.reduceAdd, lg3_a c1]
  refine wpo_call ?_
  simp only [↓stU, stD, reduceEqDiff, ↓reduceIte, ↓stV, stW, Nat.reduceAdd]
  refine wpf_mono (look_spec H (IsSlG.same (E := NodeE) firm_node hn s1) (IsSlG.same (E := InfoE) firm_info hi s1) hln) ?_
  rintro _ X ⟨hX, p, rfl, hok⟩
  simp only [↓stU, stD, reduceEqDiff, ↓reduceIte, ↓stV, stW, Nat.reduceAdd, ex0, ex1]
  refine wss ?_
  simp only [↓stU, stD, reduceEqDiff, ↓reduceIte, ↓stV, stW, Nat.reduceAdd]
  unfold chkE
  by_cases h0 : formE g = 0
  rotate_left
  · rw [if_pos h0]
    refine wpc_yes (by simp only [↓stU, stD, reduceEqDiff, ↓reduceIte, ↓stV, stW, Nat.reduceAdd, decide_eq_true (show formE g ≠ 0 from h0)]) ?_
    refine wsr ?_
    simp only [↓stU, stD, reduceEqDiff, ↓reduceIte, ↓stV, stW, Nat.reduceAdd]
    refine wpc_ret ?_
    simp only [↓stU, stD, reduceEqDiff, ↓reduceIte, ↓stV, stW, Nat.reduceAdd]
    exact s1.trans hX
  rw [if_neg (fun h => h h0)]
  refine wpc_non (by simp only [↓stU, stD, reduceEqDiff, ↓reduceIte, ↓stV, stW, Nat.reduceAdd, decide_eq_false (show ¬ formE g ≠ 0 from fun h => h h0)]) (wpc_skip ?_)
  try simp only [↓stU, stD, reduceEqDiff, ↓reduceIte, ↓stV, stW, Nat.reduceAdd]
  obtain ⟨wb, plb, szb, pv, T, Z, rfl, _, hT, hTl, hpv, hB⟩ := hok h0
  have sX := s1.trans hX
  refine wsr ?_
  simp only [↓stU, stD, reduceEqDiff, ↓reduceIte, ↓stV, stW, Nat.reduceAdd]
  refine wpo_call ?_
  simp only [↓stU, stD, reduceEqDiff, ↓reduceIte, ↓stV, stW, Nat.reduceAdd]
  refine wpf_mono (fault_spec (P := P) (ok := ok) H hP hB.w (IsSlG.same (E := NodeE) firm_node hn sX) (hm.same sX) hln fun h1 h2 h3 S' hS' => himg h0 h1 h2 h3 S' wb plb szb pv T Z (sX.trans hS') hT hTl (hpv.same hS') (hB.same hS')) ?_
  rintro _ Y ⟨hY, x, y, rfl, _⟩
  simp only [↓stU, stD, reduceEqDiff, ↓reduceIte, ↓stV, stW, Nat.reduceAdd, ex0, ex1]
  refine wsr ?_
  simp only [↓stU, stD, reduceEqDiff, ↓reduceIte, ↓stV, stW, Nat.reduceAdd]
  refine wpc_ret ?_
  simp only [↓stU, stD, reduceEqDiff, ↓reduceIte, ↓stV, stW, Nat.reduceAdd]
  exact sX.trans hY
/-- what is wanted of the reference's images -/
def XImgH (fns : Ev.T AFn) (S : St) (nv iv mv : AV) (g : PGame) (m : List Int) (ok : Prop) (P : St → St → AV → AV → Prop) : Prop :=
  formE g = 0 → m.length = g.nodes.length → InMap m g.nodes.length → ¬ dupM m → ∀ S0, Same S S0 → wpf fns (.fn 72 [] []) [.agg [.int .i64 g.players, nv, iv], mv] S0 fun r S'' => Same S0 S'' ∧ ∃ a b t, r = .tup [a, b, .bool t] ∧ (t = true ↔ ok) ∧ (t = true → P S0 S'' a b)
theorem xCheck_spec {S : St} {nv iv mv : AV} {g : PGame} {m : List Int} {ok : Prop} {P : St → St → AV → AV → Prop} (H : Has fns) (hn : IsSlG 6 NodeE S nv g.nodes) (hi : IsSlG 2 InfoE S iv g.infos) (hm : IsSl .i64 S mv m) (hln : g.nodes.length ≤ 100000) (himg : XImgH fns S nv iv mv g m ok P) :
    wpf fns (.fn 29 [] []) [.agg [.int .i64 g.players, nv, iv], mv] S fun r S' => r = .int .i64 (chkE g m ok) ∧ Same S S' := by
  refine wpf_fn H.f29 (by simp) ?_
  simp only [↓stU, stD, reduceEqDiff, ↓reduceIte, ↓stV, stW, Nat.reduceAdd]
  refine wsr ?_
  refine wpo_box (by simp only [↓stU, stD, reduceEqDiff, ↓reduceIte, ↓stV, stW, Nat.reduceAdd]; exact cells_agg _) ?_
  intro S1 s1 n1 c1
  simp only [↓stU, stD, reduceEqDiff, ↓reduceIte, ↓stV, stW, Nat.reduceAdd]
  refine wss ?_
  simp only [↓stU, stD, reduceEqDiff, ↓reduceIte, ↓stV, stW, Nat.reduceAdd, lg3_a c1]
  refine wpo_call ?_
  simp only [↓stU, stD, reduceEqDiff, ↓reduceIte, ↓stV, stW, Nat.reduceAdd]
  refine wpf_mono (xform_spec H (IsSlG.same (E := NodeE) firm_node hn s1) (IsSlG.same (E := InfoE) firm_info hi s1) hln) ?_
  rintro _ X ⟨rfl, hX⟩
  try simp only [↓stU, stD, reduceEqDiff, ↓reduceIte, ↓stV, stW, Nat.reduceAdd]
  refine wsr ?_
  simp only [↓stU, stD, reduceEqDiff, ↓reduceIte, ↓stV, stW, Nat.reduceAdd]
  have sX := s1.trans hX
  have cX : X.h.get S.nx = some (.cells [.int .i64 g.players, nv, iv] false 0) := by rw [hX.2 _ (by omega)]; exact c1
  unfold chkE
  by_cases h0 : formE g = 0
  rotate_left
  · rw [if_pos h0]
    refine wpc_yes (by simp only [↓stU, stD, reduceEqDiff, ↓reduceIte, ↓stV, stW, Nat.reduceAdd, decide_eq_true (show formE g ≠ 0 from h0)]) ?_
    refine wsr ?_
    simp only [↓stU, stD, reduceEqDiff, ↓reduceIte, ↓stV, stW, Nat.reduceAdd]
    refine wpc_ret ?_
    simp only [↓stU, stD, reduceEqDiff, ↓reduceIte, ↓stV, stW, Nat.reduceAdd]
    exact sX
  rw [if_neg (fun h => h h0)]
  refine wpc_non (by simp only [↓stU, stD, reduceEqDiff, ↓reduceIte, ↓stV, stW, Nat.reduceAdd, decide_eq_false (show ¬ formE g ≠ 0 from fun h => h h0)]) (wpc_skip ?_)
  try simp only [↓stU, stD, reduceEqDiff, ↓reduceIte, ↓stV, stW, Nat.reduceAdd]
  refine wsr ?_
  simp only [↓stU, stD, reduceEqDiff, ↓reduceIte, ↓stV, stW, Nat.reduceAdd, lg3_a cX]
  refine wpo_call ?_
  simp only [↓stU, stD, reduceEqDiff, ↓reduceIte, ↓stV, stW, Nat.reduceAdd]
  refine wpf_mono (xcheck_spec (ok := ok) H (IsSlG.same (E := NodeE) firm_node hn sX) (hm.same sX) hln fun h1 h2 h3 S' hS' => wpf_mono (himg h0 h1 h2 h3 S' (sX.trans hS')) ?_) ?_
  · rintro _ Z ⟨hZ, a, b, t, rfl, ht, _⟩
    exact ⟨hZ, a, b, t, rfl, ht⟩
  rintro _ Y ⟨rfl, hY⟩
  try simp only [↓stU, stD, reduceEqDiff, ↓reduceIte, ↓stV, stW, Nat.reduceAdd]
  refine wpc_ret ?_
  simp only [↓stU, stD, reduceEqDiff, ↓reduceIte, ↓stV, stW, Nat.reduceAdd]
  exact sX.trans hY
end Go.Ev.Gl

namespace Go.Ev.Gl
variable {fns : T AFn}

/-! ## Product, of both (given the images) -/
theorem mapE_zero {n : Nat} {m : List Int} {ok : Prop} (h : mapE n m ok = 0) : m.length = n ∧ InMap m n ∧ ¬ dupM m ∧ ok := by
  unfold mapE at h
  split at h
  · exact absurd h (by decide)
  · rename_i h1
    split at h
    · exact absurd h (by decide)
    · rename_i h2
      split at h
      · exact absurd h (by decide)
      · rename_i h3
        split at h
        · rename_i h4
          exact ⟨Decidable.not_not.1 h1, Classical.not_not.1 h2, h3, h4⟩
        · exact absurd h (by decide)
noncomputable def prodE (g : PGame) (a b : List Int) (oka okb : Prop) : Int := if chkE g a oka ≠ 0 then chkE g a oka else mapE g.nodes.length b okb
def ProdR (S' : St) (v : AV) (g : PGame) (a b : List Int) (e : Int) : Prop := (e ≠ 0 → v = .nilsl) ∧ (e = 0 → IsSl .i64 S' v (prodL a b))
abbrev Stable (P : St → St → AV → AV → Prop) : Prop := ∀ {S0 S1 S2 : St} {x y : AV}, P S0 S1 x y → S1.nx ≤ S2.nx → (∀ c, S0.nx ≤ c → c < S1.nx → S2.h.get c = S1.h.get c) → P S0 S2 x y
set_option maxHeartbeats 1000000 in
theorem product_spec {S : St} {nv iv av bv : AV} {g : PGame} {a b : List Int} {oka okb : Prop} {P P' : St → St → AV → AV → Prop} (H : Has fns) (hP : Stable P) (hP' : Stable P') (hn : IsSlG 6 NodeE S nv g.nodes) (hi : IsSlG 2 InfoE S iv g.infos) (ha : IsSl .i64 S av a) (hb : IsSl .i64 S bv b) (hln : g.nodes.length ≤ 100000) (ia : ImgH fns S nv iv av g a oka P) (ib : ImgH fns S nv iv bv g b okb P') :
    wpf fns (.fn 17 [] []) [.agg [.int .i64 g.players, nv, iv], av, bv] S fun r S' => Same S S' ∧ ∃ v, r = .tup [v, .int .i64 (prodE g a b oka okb)] ∧ ProdR S' v g a b (prodE g a b oka okb) := by
  refine wpf_fn H.f17 (by simp) ?_
  simp only [↓stU, stD, reduceEqDiff, ↓reduceIte, ↓stV, stW, Nat.reduceAdd]
  refine wsr ?_
  refine wpo_box (by simp only [↓stU, stD, reduceEqDiff, ↓reduceIte, ↓stV, stW, Nat.reduceAdd]; exact cells_agg _) ?_
  intro S1 s1 n1 c1
  simp only [↓stU, stD, reduceEqDiff, ↓reduceIte, ↓stV, stW, Nat.reduceAdd]
  refine wsr ?_
  simp only [↓stU, stD, reduceEqDiff, ↓reduceIte, ↓stV, stW, Nat.reduceAdd, lg3_a c1]
  refine wpo_call ?_
  simp only [↓stU, stD, reduceEqDiff, ↓reduceIte, ↓stV, stW, Nat.reduceAdd]
  refine wpf_mono (look_spec H (IsSlG.same (E := NodeE) firm_node hn s1) (IsSlG.same (E := InfoE) firm_info hi s1) hln) ?_
  rintro _ X ⟨hX, p, rfl, hok⟩
  have sX := s1.trans hX
  simp only [↓stU, stD, reduceEqDiff, ↓reduceIte, ↓stV, stW, Nat.reduceAdd, ex0, ex1]
  refine wss ?_
  simp only [↓stU, stD, reduceEqDiff, ↓reduceIte, ↓stV, stW, Nat.reduceAdd]
  by_cases h0 : formE g = 0
  rotate_left
  · have hE : prodE g a b oka okb = formE g := by unfold prodE chkE; rw [if_pos h0, if_pos h0]
    rw [hE]
    refine wpc_yes (by simp only [↓stU, stD, reduceEqDiff, ↓reduceIte, ↓stV, stW, Nat.reduceAdd, decide_eq_true (show formE g ≠ 0 from h0)]) ?_
    refine wsr ?_
    simp only [↓stU, stD, reduceEqDiff, ↓reduceIte, ↓stV, stW, Nat.reduceAdd]
    refine wpc_ret ?_
    simp only [↓stU, stD, reduceEqDiff, ↓reduceIte, ↓stV, stW, Nat.reduceAdd]
    exact ⟨sX, _, rfl, fun _ => rfl, fun h => absurd h h0⟩
  have hC : chkE g a oka = mapE g.nodes.length a oka := by unfold chkE; rw [if_neg (fun h => h h0)]
  refine wpc_non (by simp only [↓stU, stD, reduceEqDiff, ↓reduceIte, ↓stV, stW, Nat.reduceAdd, decide_eq_false (show ¬ formE g ≠ 0 from fun h => h h0)]) (wpc_skip ?_)
  try simp only [↓stU, stD, reduceEqDiff, ↓reduceIte, ↓stV, stW, Nat.reduceAdd]
  obtain ⟨wb, plb, szb, pv, T, Z, rfl, _, hT, hTl, hpv, hB⟩ := hok h0
  have hnX := IsSlG.same (E := NodeE) firm_node hn sX
  refine wss ?_
  simp only [↓stU, stD, reduceEqDiff, ↓reduceIte, ↓stV, stW, Nat.reduceAdd]
  refine wpo_call ?_
  simp only [↓stU, stD, reduceEqDiff, ↓reduceIte, ↓stV, stW, Nat.reduceAdd]
  refine wpf_mono (fault_spec (P := P) (ok := oka) H hP hB.w hnX (ha.same sX) hln fun h1 h2 h3 S' hS' => ia h0 h1 h2 h3 S' wb plb szb pv T Z (sX.trans hS') hT hTl (hpv.same hS') (hB.same hS')) ?_
  rintro _ Y ⟨hY, x, y, rfl, _⟩
  have sY := sX.trans hY
  simp only [↓stU, stD, reduceEqDiff, ↓reduceIte, ↓stV, stW, Nat.reduceAdd, ex0, ex1]
  refine wsr ?_
  simp only [↓stU, stD, reduceEqDiff, ↓reduceIte, ↓stV, stW, Nat.reduceAdd]
  by_cases ha0 : mapE g.nodes.length a oka = 0
  rotate_left
  · have hE : prodE g a b oka okb = mapE g.nodes.length a oka := by unfold prodE; rw [hC, if_pos ha0]
    rw [hE]
    refine wpc_yes (by simp only [↓stU, stD, reduceEqDiff, ↓reduceIte, ↓stV, stW, Nat.reduceAdd, decide_eq_true (show mapE g.nodes.length a oka ≠ 0 from ha0)]) ?_
    refine wsr ?_
    simp only [↓stU, stD, reduceEqDiff, ↓reduceIte, ↓stV, stW, Nat.reduceAdd]
    refine wpc_ret ?_
    simp only [↓stU, stD, reduceEqDiff, ↓reduceIte, ↓stV, stW, Nat.reduceAdd]
    exact ⟨sY, _, rfl, fun _ => rfl, fun h => absurd h ha0⟩
  have hE : prodE g a b oka okb = mapE g.nodes.length b okb := by unfold prodE; rw [hC, if_neg (fun h => h ha0)]
  rw [hE]
  refine wpc_non (by simp only [↓stU, stD, reduceEqDiff, ↓reduceIte, ↓stV, stW, Nat.reduceAdd, decide_eq_false (show ¬ mapE g.nodes.length a oka ≠ 0 from fun h => h ha0)]) (wpc_skip ?_)
  try simp only [↓stU, stD, reduceEqDiff, ↓reduceIte, ↓stV, stW, Nat.reduceAdd]
  refine wss ?_
  simp only [↓stU, stD, reduceEqDiff, ↓reduceIte, ↓stV, stW, Nat.reduceAdd]
  refine wpo_call ?_
  simp only [↓stU, stD, reduceEqDiff, ↓reduceIte, ↓stV, stW, Nat.reduceAdd]
  refine wpf_mono (fault_spec (P := P') (ok := okb) H hP' (hB.same hY).w (IsSlG.same (E := NodeE) firm_node hn sY) (hb.same sY) hln fun h1 h2 h3 S' hS' => ib h0 h1 h2 h3 S' wb plb szb pv T Z (sY.trans hS') hT hTl (hpv.same (hY.trans hS')) (hB.same (hY.trans hS'))) ?_
  rintro _ W ⟨hW, x2, y2, rfl, _⟩
  have sW := sY.trans hW
  simp only [↓stU, stD, reduceEqDiff, ↓reduceIte, ↓stV, stW, Nat.reduceAdd, ex0, ex1]
  refine wsr ?_
  simp only [↓stU, stD, reduceEqDiff, ↓reduceIte, ↓stV, stW, Nat.reduceAdd]
  by_cases hb0 : mapE g.nodes.length b okb = 0
  rotate_left
  · refine wpc_yes (by simp only [↓stU, stD, reduceEqDiff, ↓reduceIte, ↓stV, stW, Nat.reduceAdd, decide_eq_true (show mapE g.nodes.length b okb ≠ 0 from hb0)]) ?_
    refine wsr ?_
    simp only [↓stU, stD, reduceEqDiff, ↓reduceIte, ↓stV, stW, Nat.reduceAdd]
    refine wpc_ret ?_
    simp only [↓stU, stD, reduceEqDiff, ↓reduceIte, ↓stV, stW, Nat.reduceAdd]
    exact ⟨sW, _, rfl, fun _ => rfl, fun h => absurd h hb0⟩
  refine wpc_non (by simp only [↓stU, stD, reduceEqDiff, ↓reduceIte, ↓stV, stW, Nat.reduceAdd, decide_eq_false (show ¬ mapE g.nodes.length b okb ≠ 0 from fun h => h hb0)]) (wpc_skip ?_)
  try simp only [↓stU, stD, reduceEqDiff, ↓reduceIte, ↓stV, stW, Nat.reduceAdd]
  rw [hb0]
  refine wsr ?_
  simp only [↓stU, stD, reduceEqDiff, ↓reduceIte, ↓stV, stW, Nat.reduceAdd]
  refine wpo_call ?_
  simp only [↓stU, stD, reduceEqDiff, ↓reduceIte, ↓stV, stW, Nat.reduceAdd]
  refine wpf_mono (prod_spec H (ha.same sW) (hb.same sW) (by have := (mapE_zero ha0).1; omega) (by rw [(mapE_zero hb0).1]; exact (mapE_zero ha0).2.1)) ?_
  rintro v V ⟨hv, hV⟩
  try simp only [↓stU, stD, reduceEqDiff, ↓reduceIte, ↓stV, stW, Nat.reduceAdd]
  refine wpc_ret ?_
  simp only [↓stU, stD, reduceEqDiff, ↓reduceIte, ↓stV, stW, Nat.reduceAdd]
  exact ⟨sW.trans hV, _, rfl, fun h => absurd rfl h, fun _ => hv.is⟩
set_option maxHeartbeats 1000000 in
theorem xproduct_spec {S : St} {nv iv av bv : AV} {g : PGame} {a b : List Int} {oka okb : Prop} {P P' : St → St → AV → AV → Prop} (H : Has fns) (hn : IsSlG 6 NodeE S nv g.nodes) (hi : IsSlG 2 InfoE S iv g.infos) (ha : IsSl .i64 S av a) (hb : IsSl .i64 S bv b) (hln : g.nodes.length ≤ 100000) (ia : XImgH fns S nv iv av g a oka P) (ib : XImgH fns S nv iv bv g b okb P') :
    wpf fns (.fn 27 [] []) [.agg [.int .i64 g.players, nv, iv], av, bv] S fun r S' => Same S S' ∧ ∃ v, r = .tup [v, .int .i64 (prodE g a b oka okb)] ∧ ProdR S' v g a b (prodE g a b oka okb) := by
  refine wpf_fn H.f27 (by simp) ?_
  simp only [↓stU, stD, reduceEqDiff, ↓reduceIte, ↓stV, stW, Nat.reduceAdd]
  refine wsr ?_
  refine wpo_box (by simp only [↓stU, stD, reduceEqDiff, ↓reduceIte, ↓stV, stW, Nat.reduceAdd]; exact cells_agg _) ?_
  intro S1 s1 n1 c1
  simp only [↓stU, stD, reduceEqDiff, ↓reduceIte, ↓stV, stW, Nat.reduceAdd]
  refine wss ?_
  simp only [↓stU, stD, reduceEqDiff, ↓reduceIte, ↓stV, stW, Nat.reduceAdd, lg3_a c1]
  refine wpo_call ?_
  simp only [↓stU, stD, reduceEqDiff, ↓reduceIte, ↓stV, stW, Nat.reduceAdd]
  refine wpf_mono (xCheck_spec (P := P) (ok := oka) H (IsSlG.same (E := NodeE) firm_node hn s1) (IsSlG.same (E := InfoE) firm_info hi s1) (ha.same s1) hln fun h0 h1 h2 h3 S' hS' => ia h0 h1 h2 h3 S' (s1.trans hS')) ?_
  rintro _ X ⟨rfl, hX⟩
  have sX := s1.trans hX
  have cX : X.h.get S.nx = some (.cells [.int .i64 g.players, nv, iv] false 0) := by rw [hX.2 _ (by omega)]; exact c1
  try simp only [↓stU, stD, reduceEqDiff, ↓reduceIte, ↓stV, stW, Nat.reduceAdd]
  refine wsr ?_
  simp only [↓stU, stD, reduceEqDiff, ↓reduceIte, ↓stV, stW, Nat.reduceAdd]
  by_cases ha0 : chkE g a oka = 0
  rotate_left
  · have hE : prodE g a b oka okb = chkE g a oka := by unfold prodE; rw [if_pos ha0]
    rw [hE]
    refine wpc_yes (by simp only [↓stU, stD, reduceEqDiff, ↓reduceIte, ↓stV, stW, Nat.reduceAdd, decide_eq_true (show chkE g a oka ≠ 0 from ha0)]) ?_
    refine wsr ?_
    simp only [↓stU, stD, reduceEqDiff, ↓reduceIte, ↓stV, stW, Nat.reduceAdd]
    refine wpc_ret ?_
    simp only [↓stU, stD, reduceEqDiff, ↓reduceIte, ↓stV, stW, Nat.reduceAdd]
    exact ⟨sX, _, rfl, fun _ => rfl, fun h => absurd h ha0⟩
  have hE : prodE g a b oka okb = mapE g.nodes.length b okb := by unfold prodE; rw [if_neg (fun h => h ha0)]
  rw [hE]
  have h0 : formE g = 0 := Decidable.not_not.1 fun h => by unfold chkE at ha0; rw [if_pos h] at ha0; exact h ha0
  have hm0 : mapE g.nodes.length a oka = 0 := by unfold chkE at ha0; rw [if_neg (fun h => h h0)] at ha0; exact ha0
  refine wpc_non (by simp only [↓stU, stD, reduceEqDiff, ↓reduceIte, ↓stV, stW, Nat.reduceAdd, decide_eq_false (show ¬ chkE g a oka ≠ 0 from fun h => h ha0)]) (wpc_skip ?_)
  try simp only [↓stU, stD, reduceEqDiff, ↓reduceIte, ↓stV, stW, Nat.reduceAdd]
  refine wss ?_
  simp only [↓stU, stD, reduceEqDiff, ↓reduceIte, ↓stV, stW, Nat.reduceAdd, lg3_a cX]
  refine wpo_call ?_
  simp only [↓stU, stD, reduceEqDiff, ↓reduceIte, ↓stV, stW, Nat.reduceAdd]
  refine wpf_mono (xcheck_spec (ok := okb) H (IsSlG.same (E := NodeE) firm_node hn sX) (hb.same sX) hln fun h1 h2 h3 S' hS' => wpf_mono (ib h0 h1 h2 h3 S' (sX.trans hS')) ?_) ?_
  · rintro _ Z ⟨hZ, a, b, t, rfl, ht, _⟩
    exact ⟨hZ, a, b, t, rfl, ht⟩
  rintro _ W ⟨rfl, hW⟩
  have sW := sX.trans hW
  try simp only [↓stU, stD, reduceEqDiff, ↓reduceIte, ↓stV, stW, Nat.reduceAdd]
  refine wsr ?_
  simp only [↓stU, stD, reduceEqDiff, ↓reduceIte, ↓stV, stW, Nat.reduceAdd]
  by_cases hb0 : mapE g.nodes.length b okb = 0
  rotate_left
  · refine wpc_yes (by simp only [↓stU, stD, reduceEqDiff, ↓reduceIte, ↓stV, stW, Nat.reduceAdd, decide_eq_true (show mapE g.nodes.length b okb ≠ 0 from hb0)]) ?_
    refine wsr ?_
    simp only [↓stU, stD, reduceEqDiff, ↓reduceIte, ↓stV, stW, Nat.reduceAdd]
    refine wpc_ret ?_
    simp only [↓stU, stD, reduceEqDiff, ↓reduceIte, ↓stV, stW, Nat.reduceAdd]
    exact ⟨sW, _, rfl, fun _ => rfl, fun h => absurd h hb0⟩
  refine wpc_non (by simp only [↓stU, stD, reduceEqDiff, ↓reduceIte, ↓stV, stW, Nat.reduceAdd, decide_eq_false (show ¬ mapE g.nodes.length b okb ≠ 0 from fun h => h hb0)]) (wpc_skip ?_)
  try simp only [↓stU, stD, reduceEqDiff, ↓reduceIte, ↓stV, stW, Nat.reduceAdd]
  rw [hb0]
  refine wsr ?_
  simp only [↓stU, stD, reduceEqDiff, ↓reduceIte, ↓stV, stW, Nat.reduceAdd]
  refine wpo_call ?_
  simp only [↓stU, stD, reduceEqDiff, ↓reduceIte, ↓stV, stW, Nat.reduceAdd]
  refine wpf_mono (xprod_spec H (ha.same sW) (hb.same sW) (by have := (mapE_zero hm0).1; omega) (by rw [(mapE_zero hb0).1]; exact (mapE_zero hm0).2.1)) ?_
  rintro v V ⟨hv, hV⟩
  try simp only [↓stU, stD, reduceEqDiff, ↓reduceIte, ↓stV, stW, Nat.reduceAdd]
  refine wpc_ret ?_
  simp only [↓stU, stD, reduceEqDiff, ↓reduceIte, ↓stV, stW, Nat.reduceAdd]
  exact ⟨sW.trans hV, _, rfl, fun h => absurd rfl h, fun _ => hv.is⟩
end Go.Ev.Gl

namespace Go.Ev.Gl
variable {fns : T AFn}

/-! ## Infos and Actions, of both (given the images) -/
theorem ldp0 {h : Ev.T AB} {b : Nat} {x y : AV} {o : Bool} {s : Nat} (hb : h.get b = some (.cells [x, y] o s)) : qLdV (.ptr b (0 + 0)) false 1 h = some x := ldc hb rfl
theorem ldp1 {h : Ev.T AB} {b : Nat} {x y : AV} {o : Bool} {s : Nat} (hb : h.get b = some (.cells [x, y] o s)) : qLdV (.ptr b (0 + 1)) false 1 h = some y := ldc hb rfl
theorem chkE_zero {g : PGame} {m : List Int} {ok : Prop} (h : chkE g m ok = 0) : formE g = 0 ∧ mapE g.nodes.length m ok = 0 := by
  have h0 : formE g = 0 := Decidable.not_not.1 fun h' => by unfold chkE at h; rw [if_pos h'] at h; exact h' h
  unfold chkE at h
  rw [if_neg (fun h' => h' h0)] at h
  exact ⟨h0, h⟩
theorem infos_spec {S : St} {nv iv mv : AV} {g : PGame} {m : List Int} {ok : Prop} {P : St → St → AV → AV → Prop} (H : Has fns) (hP : Stable P) (hn : IsSlG 6 NodeE S nv g.nodes) (hi : IsSlG 2 InfoE S iv g.infos) (hm : IsSl .i64 S mv m) (hln : g.nodes.length ≤ 100000) (himg : ImgH fns S nv iv mv g m ok P) :
    wpf fns (.fn 21 [] []) [.agg [.int .i64 g.players, nv, iv], mv] S fun r S' => Same S S' ∧ ∃ x y, r = .tup [x, .int .i64 (chkE g m ok)] ∧ (chkE g m ok ≠ 0 → x = .nilsl) ∧ (chkE g m ok = 0 → ∃ S0, S.nx ≤ S0.nx ∧ P S0 S' x y) := by
  refine wpf_fn H.f21 (by simp) ?_
  simp only [↓stU, stD, reduceEqDiff, ↓reduceIte, ↓stV, stW, Nat.reduceAdd]
  refine wsr ?_
  refine wpo_box (by simp only [↓stU, stD, reduceEqDiff, ↓reduceIte, ↓stV, stW, Nat.reduceAdd]; exact cells_agg _) ?_
  intro S1 s1 n1 c1
  simp only [↓stU, stD, reduceEqDiff, ↓reduceIte, ↓stV, stW, Nat.reduceAdd]
  refine wsr ?_
  simp only [↓stU, stD, reduceEqDiff, ↓reduceIte, ↓stV, stW, Nat.reduceAdd, lg3_a c1]
  refine wpo_call ?_
  simp only [↓stU, stD, reduceEqDiff, ↓reduceIte, ↓stV, stW, Nat.reduceAdd]
  refine wpf_mono (look_spec H (IsSlG.same (E := NodeE) firm_node hn s1) (IsSlG.same (E := InfoE) firm_info hi s1) hln) ?_
  rintro _ X ⟨hX, p, rfl, hok⟩
  have sX := s1.trans hX
  simp only [↓stU, stD, reduceEqDiff, ↓reduceIte, ↓stV, stW, Nat.reduceAdd, ex0, ex1]
  refine wss ?_
  simp only [↓stU, stD, reduceEqDiff, ↓reduceIte, ↓stV, stW, Nat.reduceAdd]
  by_cases h0 : formE g = 0
  rotate_left
  · have hE : chkE g m ok = formE g := by unfold chkE; rw [if_pos h0]
    rw [hE]
    refine wpc_yes (by simp only [↓stU, stD, reduceEqDiff, ↓reduceIte, ↓stV, stW, Nat.reduceAdd, decide_eq_true (show formE g ≠ 0 from h0)]) ?_
    refine wsr ?_
    simp only [↓stU, stD, reduceEqDiff, ↓reduceIte, ↓stV, stW, Nat.reduceAdd]
    refine wpc_ret ?_
    simp only [↓stU, stD, reduceEqDiff, ↓reduceIte, ↓stV, stW, Nat.reduceAdd]
    exact ⟨sX, .nilsl, .nilsl, rfl, fun _ => rfl, fun h => absurd h h0⟩
  have hC : chkE g m ok = mapE g.nodes.length m ok := by unfold chkE; rw [if_neg (fun h => h h0)]
  rw [hC]
  refine wpc_non (by simp only [↓stU, stD, reduceEqDiff, ↓reduceIte, ↓stV, stW, Nat.reduceAdd, decide_eq_false (show ¬ formE g ≠ 0 from fun h => h h0)]) (wpc_skip ?_)
  try simp only [↓stU, stD, reduceEqDiff, ↓reduceIte, ↓stV, stW, Nat.reduceAdd]
  obtain ⟨wb, plb, szb, pv, T, Z, rfl, _, hT, hTl, hpv, hB⟩ := hok h0
  refine wsr ?_
  simp only [↓stU, stD, reduceEqDiff, ↓reduceIte, Nat.reduceAdd]
  refine wpo_call ?_
  simp only [↓stU, stD, reduceEqDiff, ↓reduceIte, Nat.reduceAdd]
  refine wpf_mono (fault_spec (P := P) (ok := ok) H hP hB.w (IsSlG.same (E := NodeE) firm_node hn sX) (hm.same sX) hln fun h1 h2 h3 S' hS' => himg h0 h1 h2 h3 S' wb plb szb pv T Z (sX.trans hS') hT hTl (hpv.same hS') (hB.same hS')) ?_
  rintro _ Y ⟨hY, x, y, rfl, hr0, hr1⟩
  have sY := sX.trans hY
  simp only [↓stU, stD, reduceEqDiff, ↓reduceIte, Nat.reduceAdd, ex0, ex1]
  refine wpo_alloc ?_
  intro Y1 y1 k1 e1
  refine wpo_st (b := Y.nx) (by simp only [↓stU, stD, reduceEqDiff, ↓reduceIte, Nat.reduceAdd]) (by simp only [↓stU, stD, reduceEqDiff, ↓reduceIte, Nat.reduceAdd]; exact cells_agg _) e1 rfl rfl ?_
  intro Y2 y2 k2 e2
  simp only [↓stU, stD, reduceEqDiff, ↓reduceIte, Nat.reduceAdd]
  have sY2 : Same Y Y2 := y2.same y1 (Nat.le_refl _)
  refine wsr ?_
  simp only [↓stU, stD, reduceEqDiff, ↓reduceIte, Nat.reduceAdd, evQ_faddr, faddr_ptr, ldp0 e2]
  refine wpc_ret ?_
  simp only [↓stU, stD, reduceEqDiff, ↓reduceIte, Nat.reduceAdd]
  refine ⟨sY.trans sY2, x, y, rfl, fun h => (hr1 h).1, fun h => ?_⟩
  obtain ⟨S0, a, b⟩ := hr0 h
  exact ⟨S0, Nat.le_trans sX.1 a, hP b sY2.1 fun c _ hc => sY2.2 c hc⟩
theorem xinfos_spec {S : St} {nv iv mv : AV} {g : PGame} {m : List Int} {ok : Prop} {P : St → St → AV → AV → Prop} (H : Has fns) (hn : IsSlG 6 NodeE S nv g.nodes) (hi : IsSlG 2 InfoE S iv g.infos) (hm : IsSl .i64 S mv m) (hln : g.nodes.length ≤ 100000) (himg : XImgH fns S nv iv mv g m ok P) :
    wpf fns (.fn 25 [] []) [.agg [.int .i64 g.players, nv, iv], mv] S fun r S' => Same S S' ∧ ∃ x y, r = .tup [x, .int .i64 (chkE g m ok)] ∧ (chkE g m ok ≠ 0 → x = .nilsl) ∧ (chkE g m ok = 0 → ∃ S0, S.nx ≤ S0.nx ∧ P S0 S' x y) := by
  refine wpf_fn H.f25 (by simp) ?_
  simp only [↓stU, stD, reduceEqDiff, ↓reduceIte, ↓stV, stW, Nat.reduceAdd]
  refine wsr ?_
  refine wpo_box (by simp only [↓stU, stD, reduceEqDiff, ↓reduceIte, ↓stV, stW, Nat.reduceAdd]; exact cells_agg _) ?_
  intro S1 s1 n1 c1
  simp only [↓stU, stD, reduceEqDiff, ↓reduceIte, ↓stV, stW, Nat.reduceAdd]
  refine wss ?_
  simp only [↓stU, stD, reduceEqDiff, ↓reduceIte, ↓stV, stW, Nat.reduceAdd, lg3_a c1]
  refine wpo_call ?_
  simp only [↓stU, stD, reduceEqDiff, ↓reduceIte, ↓stV, stW, Nat.reduceAdd]
  refine wpf_mono (xCheck_spec (P := P) (ok := ok) H (IsSlG.same (E := NodeE) firm_node hn s1) (IsSlG.same (E := InfoE) firm_info hi s1) (hm.same s1) hln fun h0 h1 h2 h3 S' hS' => himg h0 h1 h2 h3 S' (s1.trans hS')) ?_
  rintro _ X ⟨rfl, hX⟩
  have sX := s1.trans hX
  have cX : X.h.get S.nx = some (.cells [.int .i64 g.players, nv, iv] false 0) := by rw [hX.2 _ (by omega)]; exact c1
  try simp only [↓stU, stD, reduceEqDiff, ↓reduceIte, ↓stV, stW, Nat.reduceAdd]
  refine wsr ?_
  simp only [↓stU, stD, reduceEqDiff, ↓reduceIte, ↓stV, stW, Nat.reduceAdd]
  by_cases ha0 : chkE g m ok = 0
  rotate_left
  · refine wpc_yes (by simp only [↓stU, stD, reduceEqDiff, ↓reduceIte, ↓stV, stW, Nat.reduceAdd, decide_eq_true (show chkE g m ok ≠ 0 from ha0)]) ?_
    refine wsr ?_
    simp only [↓stU, stD, reduceEqDiff, ↓reduceIte, ↓stV, stW, Nat.reduceAdd]
    refine wpc_ret ?_
    simp only [↓stU, stD, reduceEqDiff, ↓reduceIte, ↓stV, stW, Nat.reduceAdd]
    exact ⟨sX, .nilsl, .nilsl, rfl, fun _ => rfl, fun h => absurd h ha0⟩
  obtain ⟨h0, hm0⟩ := chkE_zero ha0
  obtain ⟨h1, h2, h3, hk⟩ := mapE_zero hm0
  rw [ha0]
  refine wpc_non (by simp only [↓stU, stD, reduceEqDiff, ↓reduceIte, ↓stV, stW, Nat.reduceAdd, ha0]; rfl) (wpc_skip ?_)
  try simp only [↓stU, stD, reduceEqDiff, ↓reduceIte, ↓stV, stW, Nat.reduceAdd]
  refine wsr ?_
  simp only [↓stU, stD, reduceEqDiff, ↓reduceIte, ↓stV, stW, Nat.reduceAdd, lg3_a cX]
  refine wpo_call ?_
  simp only [↓stU, stD, reduceEqDiff, ↓reduceIte, ↓stV, stW, Nat.reduceAdd]
  refine wpf_mono (himg h0 h1 h2 h3 X sX) ?_
  rintro _ Y ⟨hY, x, y, t, rfl, ht, htP⟩
  have ex2 : extractV (.tup [x, y, .bool t]) 2 = some (.bool t) := rfl
  simp only [↓stU, stD, reduceEqDiff, ↓reduceIte, ↓stV, stW, Nat.reduceAdd, ex0, ex1, ex2]
  refine wsr ?_
  simp only [↓stU, stD, reduceEqDiff, ↓reduceIte, ↓stV, stW, Nat.reduceAdd]
  refine wpc_ret ?_
  simp only [↓stU, stD, reduceEqDiff, ↓reduceIte, ↓stV, stW, Nat.reduceAdd]
  exact ⟨sX.trans hY, x, y, rfl, fun h => absurd rfl h, X, sX.1, htP (ht.2 hk)⟩
theorem actions_spec {S : St} {nv iv mv : AV} {g : PGame} {m : List Int} {ok : Prop} {P : St → St → AV → AV → Prop} (H : Has fns) (hP : Stable P) (hn : IsSlG 6 NodeE S nv g.nodes) (hi : IsSlG 2 InfoE S iv g.infos) (hm : IsSl .i64 S mv m) (hln : g.nodes.length ≤ 100000) (himg : ImgH fns S nv iv mv g m ok P) :
    wpf fns (.fn 22 [] []) [.agg [.int .i64 g.players, nv, iv], mv] S fun r S' => Same S S' ∧ ∃ x y, r = .tup [y, .int .i64 (chkE g m ok)] ∧ (chkE g m ok ≠ 0 → y = .nilsl) ∧ (chkE g m ok = 0 → ∃ S0, S.nx ≤ S0.nx ∧ P S0 S' x y) := by
  refine wpf_fn H.f22 (by simp) ?_
  simp only [↓stU, stD, reduceEqDiff, ↓reduceIte, ↓stV, stW, Nat.reduceAdd]
  refine wsr ?_
  refine wpo_box (by simp only [↓stU, stD, reduceEqDiff, ↓reduceIte, ↓stV, stW, Nat.reduceAdd]; exact cells_agg _) ?_
  intro S1 s1 n1 c1
  simp only [↓stU, stD, reduceEqDiff, ↓reduceIte, ↓stV, stW, Nat.reduceAdd]
  refine wsr ?_
  simp only [↓stU, stD, reduceEqDiff, ↓reduceIte, ↓stV, stW, Nat.reduceAdd, lg3_a c1]
  refine wpo_call ?_
  simp only [↓stU, stD, reduceEqDiff, ↓reduceIte, ↓stV, stW, Nat.reduceAdd]
  refine wpf_mono (look_spec H (IsSlG.same (E := NodeE) firm_node hn s1) (IsSlG.same (E := InfoE) firm_info hi s1) hln) ?_
  rintro _ X ⟨hX, p, rfl, hok⟩
  have sX := s1.trans hX
  simp only [↓stU, stD, reduceEqDiff, ↓reduceIte, ↓stV, stW, Nat.reduceAdd, ex0, ex1]
  refine wss ?_
  simp only [↓stU, stD, reduceEqDiff, ↓reduceIte, ↓stV, stW, Nat.reduceAdd]
  by_cases h0 : formE g = 0
  rotate_left
  · have hE : chkE g m ok = formE g := by unfold chkE; rw [if_pos h0]
    rw [hE]
    refine wpc_yes (by simp only [↓stU, stD, reduceEqDiff, ↓reduceIte, ↓stV, stW, Nat.reduceAdd, decide_eq_true (show formE g ≠ 0 from h0)]) ?_
    refine wsr ?_
    simp only [↓stU, stD, reduceEqDiff, ↓reduceIte, ↓stV, stW, Nat.reduceAdd]
    refine wpc_ret ?_
    simp only [↓stU, stD, reduceEqDiff, ↓reduceIte, ↓stV, stW, Nat.reduceAdd]
    exact ⟨sX, .nilsl, .nilsl, rfl, fun _ => rfl, fun h => absurd h h0⟩
  have hC : chkE g m ok = mapE g.nodes.length m ok := by unfold chkE; rw [if_neg (fun h => h h0)]
  rw [hC]
  refine wpc_non (by simp only [↓stU, stD, reduceEqDiff, ↓reduceIte, ↓stV, stW, Nat.reduceAdd, decide_eq_false (show ¬ formE g ≠ 0 from fun h => h h0)]) (wpc_skip ?_)
  try simp only [↓stU, stD, reduceEqDiff, ↓reduceIte, ↓stV, stW, Nat.reduceAdd]
  obtain ⟨wb, plb, szb, pv, T, Z, rfl, _, hT, hTl, hpv, hB⟩ := hok h0
  refine wsr ?_
  simp only [↓stU, stD, reduceEqDiff, ↓reduceIte, Nat.reduceAdd]
  refine wpo_call ?_
  simp only [↓stU, stD, reduceEqDiff, ↓reduceIte, Nat.reduceAdd]
  refine wpf_mono (fault_spec (P := P) (ok := ok) H hP hB.w (IsSlG.same (E := NodeE) firm_node hn sX) (hm.same sX) hln fun h1 h2 h3 S' hS' => himg h0 h1 h2 h3 S' wb plb szb pv T Z (sX.trans hS') hT hTl (hpv.same hS') (hB.same hS')) ?_
  rintro _ Y ⟨hY, x, y, rfl, hr0, hr1⟩
  have sY := sX.trans hY
  simp only [↓stU, stD, reduceEqDiff, ↓reduceIte, Nat.reduceAdd, ex0, ex1]
  refine wpo_alloc ?_
  intro Y1 y1 k1 e1
  refine wpo_st (b := Y.nx) (by simp only [↓stU, stD, reduceEqDiff, ↓reduceIte, Nat.reduceAdd]) (by simp only [↓stU, stD, reduceEqDiff, ↓reduceIte, Nat.reduceAdd]; exact cells_agg _) e1 rfl rfl ?_
  intro Y2 y2 k2 e2
  simp only [↓stU, stD, reduceEqDiff, ↓reduceIte, Nat.reduceAdd]
  have sY2 : Same Y Y2 := y2.same y1 (Nat.le_refl _)
  refine wsr ?_
  simp only [↓stU, stD, reduceEqDiff, ↓reduceIte, Nat.reduceAdd, evQ_faddr, faddr_ptr, ldp1 e2]
  refine wpc_ret ?_
  simp only [↓stU, stD, reduceEqDiff, ↓reduceIte, Nat.reduceAdd]
  refine ⟨sY.trans sY2, x, y, rfl, fun h => (hr1 h).2, fun h => ?_⟩
  obtain ⟨S0, a, b⟩ := hr0 h
  exact ⟨S0, Nat.le_trans sX.1 a, hP b sY2.1 fun c _ hc => sY2.2 c hc⟩
theorem xactions_spec {S : St} {nv iv mv : AV} {g : PGame} {m : List Int} {ok : Prop} {P : St → St → AV → AV → Prop} (H : Has fns) (hn : IsSlG 6 NodeE S nv g.nodes) (hi : IsSlG 2 InfoE S iv g.infos) (hm : IsSl .i64 S mv m) (hln : g.nodes.length ≤ 100000) (himg : XImgH fns S nv iv mv g m ok P) :
    wpf fns (.fn 26 [] []) [.agg [.int .i64 g.players, nv, iv], mv] S fun r S' => Same S S' ∧ ∃ x y, r = .tup [y, .int .i64 (chkE g m ok)] ∧ (chkE g m ok ≠ 0 → y = .nilsl) ∧ (chkE g m ok = 0 → ∃ S0, S.nx ≤ S0.nx ∧ P S0 S' x y) := by
  refine wpf_fn H.f26 (by simp) ?_
  simp only [↓stU, stD, reduceEqDiff, ↓reduceIte, ↓stV, stW, Nat.reduceAdd]
  refine wsr ?_
  refine wpo_box (by simp only [↓stU, stD, reduceEqDiff, ↓reduceIte, ↓stV, stW, Nat.reduceAdd]; exact cells_agg _) ?_
  intro S1 s1 n1 c1
  simp only [↓stU, stD, reduceEqDiff, ↓reduceIte, ↓stV, stW, Nat.reduceAdd]
  refine wss ?_
  simp only [↓stU, stD, reduceEqDiff, ↓reduceIte, ↓stV, stW, Nat.reduceAdd, lg3_a c1]
  refine wpo_call ?_
  simp only [↓stU, stD, reduceEqDiff, ↓reduceIte, ↓stV, stW, Nat.reduceAdd]
  refine wpf_mono (xCheck_spec (P := P) (ok := ok) H (IsSlG.same (E := NodeE) firm_node hn s1) (IsSlG.same (E := InfoE) firm_info hi s1) (hm.same s1) hln fun h0 h1 h2 h3 S' hS' => himg h0 h1 h2 h3 S' (s1.trans hS')) ?_
  rintro _ X ⟨rfl, hX⟩
  have sX := s1.trans hX
  have cX : X.h.get S.nx = some (.cells [.int .i64 g.players, nv, iv] false 0) := by rw [hX.2 _ (by omega)]; exact c1
  try simp only [↓stU, stD, reduceEqDiff, ↓reduceIte, ↓stV, stW, Nat.reduceAdd]
  refine wsr ?_
  simp only [↓stU, stD, reduceEqDiff, ↓reduceIte, ↓stV, stW, Nat.reduceAdd]
  by_cases ha0 : chkE g m ok = 0
  rotate_left
  · refine wpc_yes (by simp only [↓stU, stD, reduceEqDiff, ↓reduceIte, ↓stV, stW, Nat.reduceAdd, decide_eq_true (show chkE g m ok ≠ 0 from ha0)]) ?_
    refine wsr ?_
    simp only [↓stU, stD, reduceEqDiff, ↓reduceIte, ↓stV, stW, Nat.reduceAdd]
    refine wpc_ret ?_
    simp only [↓stU, stD, reduceEqDiff, ↓reduceIte, ↓stV, stW, Nat.reduceAdd]
    exact ⟨sX, .nilsl, .nilsl, rfl, fun _ => rfl, fun h => absurd h ha0⟩
  obtain ⟨h0, hm0⟩ := chkE_zero ha0
  obtain ⟨h1, h2, h3, hk⟩ := mapE_zero hm0
  rw [ha0]
  refine wpc_non (by simp only [↓stU, stD, reduceEqDiff, ↓reduceIte, ↓stV, stW, Nat.reduceAdd, ha0]; rfl) (wpc_skip ?_)
  try simp only [↓stU, stD, reduceEqDiff, ↓reduceIte, ↓stV, stW, Nat.reduceAdd]
  refine wsr ?_
  simp only [↓stU, stD, reduceEqDiff, ↓reduceIte, ↓stV, stW, Nat.reduceAdd, lg3_a cX]
  refine wpo_call ?_
  simp only [↓stU, stD, reduceEqDiff, ↓reduceIte, ↓stV, stW, Nat.reduceAdd]
  refine wpf_mono (himg h0 h1 h2 h3 X sX) ?_
  rintro _ Y ⟨hY, x, y, t, rfl, ht, htP⟩
  have ex2 : extractV (.tup [x, y, .bool t]) 2 = some (.bool t) := rfl
  simp only [↓stU, stD, reduceEqDiff, ↓reduceIte, ↓stV, stW, Nat.reduceAdd, ex0, ex1, ex2]
  refine wsr ?_
  simp only [↓stU, stD, reduceEqDiff, ↓reduceIte, ↓stV, stW, Nat.reduceAdd]
  refine wpc_ret ?_
  simp only [↓stU, stD, reduceEqDiff, ↓reduceIte, ↓stV, stW, Nat.reduceAdd]
  exact ⟨sX.trans hY, x, y, rfl, fun h => absurd rfl h, X, sX.1, htP (ht.2 hk)⟩
end Go.Ev.Gl

namespace Go.Ev.Gl
variable {fns : T AFn}

/-! ## The reference's Inverse (given the images) -/
def invL (m : List Int) : List Int := plcN m 0 (List.replicate m.length 0)
def InvI (S1 : St) (rb : Nat) (mv : AV) (m : List Int) (k : Nat) (A : Act') (X : St) : Prop := A.inr = false ∧ Same S1 X ∧ rb < X.nx ∧ ∃ i R, i + k = m.length ∧ R.length = m.length ∧ plcN (m.drop i) i R = invL m ∧ X.h.get rb = some (.cells (cells64 R) false 0) ∧ tmpV 1 A.F = mv ∧ tmpV 7 A.F = .sl rb 0 m.length m.length false ∧ tmpV 8 A.F = .int .i64 (i : Int)
set_option maxHeartbeats 1000000 in
theorem xinverse_spec {S : St} {nv iv mv : AV} {g : PGame} {m : List Int} {ok : Prop} {P : St → St → AV → AV → Prop} (H : Has fns) (hn : IsSlG 6 NodeE S nv g.nodes) (hi : IsSlG 2 InfoE S iv g.infos) (hm : IsSl .i64 S mv m) (hln : g.nodes.length ≤ 100000) (himg : XImgH fns S nv iv mv g m ok P) :
    wpf fns (.fn 28 [] []) [.agg [.int .i64 g.players, nv, iv], mv] S fun r S' => Same S S' ∧ ∃ v, r = .tup [v, .int .i64 (chkE g m ok)] ∧ (chkE g m ok ≠ 0 → v = .nilsl) ∧ (chkE g m ok = 0 → IsSl .i64 S' v (invL m)) := by
  refine wpf_fn H.f28 (by simp) ?_
  simp only [↓stU, stD, reduceEqDiff, ↓reduceIte, ↓stV, stW, Nat.reduceAdd]
  refine wsr ?_
  refine wpo_box (by simp only [↓stU, stD, reduceEqDiff, ↓reduceIte, ↓stV, stW, Nat.reduceAdd]; exact cells_agg _) ?_
  intro S1 s1 n1 c1
  simp only [↓stU, stD, reduceEqDiff, ↓reduceIte, ↓stV, stW, Nat.reduceAdd]
  refine wss ?_
  simp only [↓stU, stD, reduceEqDiff, ↓reduceIte, ↓stV, stW, Nat.reduceAdd, lg3_a c1]
  refine wpo_call ?_
  simp only [↓stU, stD, reduceEqDiff, ↓reduceIte, ↓stV, stW, Nat.reduceAdd]
  refine wpf_mono (xCheck_spec (P := P) (ok := ok) H (IsSlG.same (E := NodeE) firm_node hn s1) (IsSlG.same (E := InfoE) firm_info hi s1) (hm.same s1) hln fun h0 h1 h2 h3 S' hS' => himg h0 h1 h2 h3 S' (s1.trans hS')) ?_
  rintro _ X ⟨rfl, hX⟩
  have sX := s1.trans hX
  try simp only [↓stU, stD, reduceEqDiff, ↓reduceIte, ↓stV, stW, Nat.reduceAdd]
  refine wsr ?_
  simp only [↓stU, stD, reduceEqDiff, ↓reduceIte, ↓stV, stW, Nat.reduceAdd]
  by_cases ha0 : chkE g m ok = 0
  rotate_left
  · refine wpc_yes (by simp only [↓stU, stD, reduceEqDiff, ↓reduceIte, ↓stV, stW, Nat.reduceAdd, decide_eq_true (show chkE g m ok ≠ 0 from ha0)]) ?_
    refine wsr ?_
    simp only [↓stU, stD, reduceEqDiff, ↓reduceIte, ↓stV, stW, Nat.reduceAdd]
    refine wpc_ret ?_
    simp only [↓stU, stD, reduceEqDiff, ↓reduceIte, ↓stV, stW, Nat.reduceAdd]
    exact ⟨sX, .nilsl, rfl, fun _ => rfl, fun h => absurd h ha0⟩
  obtain ⟨h0, hm0⟩ := chkE_zero ha0
  obtain ⟨h1, h2, h3, hk⟩ := mapE_zero hm0
  rw [← h1] at h2
  have hmX := hm.same sX
  rw [ha0]
  refine wpc_non (by simp only [↓stU, stD, reduceEqDiff, ↓reduceIte, ↓stV, stW, Nat.reduceAdd, ha0]; rfl) (wpc_skip ?_)
  try simp only [↓stU, stD, reduceEqDiff, ↓reduceIte, ↓stV, stW, Nat.reduceAdd]
  refine wsr ?_
  simp only [↓stU, stD, reduceEqDiff, ↓reduceIte, Nat.reduceAdd, hm.len, Int.ofNat_eq_natCast]
  refine wpo_al (evA_mk (n := m.length) (by simp only [↓stU, stD, reduceEqDiff, ↓reduceIte, Nat.reduceAdd, natOf_cast]) (by simp only [↓stU, stD, reduceEqDiff, ↓reduceIte, Nat.reduceAdd, natOf_cast]) (by unfold room; omega) (by unfold room; omega)) ?_
  intro X1 x1 m1 d1
  rw [zeros64] at d1
  simp only [↓stU, stD, reduceEqDiff, ↓reduceIte, Nat.reduceAdd]
  refine wpc_seq (wpc_mono (Q := fun o A' Y => o = .normal ∧ InvI X X.nx mv m 0 A' Y) (wpc_seq (wpc_reg ?_)) ?_)
  · simp only [↓stU, stD, reduceEqDiff, ↓reduceIte, Nat.reduceAdd]
    refine wpc_block (wpc_loop (InvI X X.nx mv m) ?_ m.length _ _ ⟨rfl, x1, by omega, 0, _, by omega, List.length_replicate .., rfl, d1, by simp only [↓stU, stD, reduceEqDiff, ↓reduceIte, Nat.reduceAdd], by simp only [↓stU, stD, reduceEqDiff, ↓reduceIte, Nat.reduceAdd], by simp only [↓stU, stD, reduceEqDiff, ↓reduceIte, Nat.reduceAdd]⟩)
    rintro k ⟨F, inr⟩ Y ⟨q0, hY, hb, i, R, hik, hR, he, hc, p1, p7, p8⟩
    simp only at q0 p1 p7 p8
    subst q0
    refine wss ?_
    simp only [↓stU, stD, reduceEqDiff, ↓reduceIte, Nat.reduceAdd, p1, p8, hm.len, Int.ofNat_eq_natCast]
    by_cases hlt : i < m.length
    · refine wpc_yes (by simp only [↓stU, stD, reduceEqDiff, ↓reduceIte, Nat.reduceAdd, decide_eq_true (show (i : Int) < ((m.length : Nat) : Int) by omega)]) (wpc_skip ?_)
      try simp only [↓stU, stD, reduceEqDiff, ↓reduceIte, Nat.reduceAdd]
      have ia := (hmX.same hY).iaddr hlt
      have la := (hmX.same hY).ld hlt
      have hdr : m.drop i = m[i] :: m.drop (i + 1) := List.drop_eq_getElem_cons hlt
      have hgd : m.getD i 0 = m[i] := by rw [List.getD_eq_getElem?_getD, List.getElem?_eq_getElem hlt]; rfl
      rw [hgd] at la
      rw [hdr] at he
      obtain ⟨v0, v1⟩ := h2 _ (List.getElem_mem hlt)
      generalize m[i] = c at *
      obtain ⟨u, rfl⟩ : ∃ u : Nat, c = (u : Int) := ⟨c.toNat, by omega⟩
      have hu : u < m.length := by omega
      have hia := row_ia (b := X.nx) (o := false) hu
      have w1 : IntKind.i64.wrap ((i : Int) + 1) = ((i + 1 : Nat) : Int) := by rw [wrap_i64 (by omega) (by omega)]; omega
      simp only [plcN, Int.toNat_natCast] at he
      refine wpc_seq (wpc_block (wpc_reg ?_))
      simp only [↓stU, stD, reduceEqDiff, ↓reduceIte, Nat.reduceAdd, p1, p7, p8, natOf_cast, ia, la, hia]
      refine wpo_x (fun call => by simp only [↓stU, stD, reduceEqDiff, ↓reduceIte, Nat.reduceAdd, evX_st, cells_int]; exact st64 (S := Y) hc (by rw [hR]; exact hu)) ?_
      simp only [↓stU, stD, reduceEqDiff, ↓reduceIte, Nat.reduceAdd]
      refine wpc_reg ?_
      simp only [↓stU, stD, reduceEqDiff, ↓reduceIte, Nat.reduceAdd, p8, w1]
      exact ⟨k - 1, by omega, rfl, hY.put (Nat.le_refl _) _, hb, i + 1, R.set u (i : Int), by omega, by rw [List.length_set]; exact hR, he, by simp only; rw [T.get_set, if_pos rfl], by simp only [↓stU, stD, reduceEqDiff, ↓reduceIte, Nat.reduceAdd, p1], by simp only [↓stU, stD, reduceEqDiff, ↓reduceIte, Nat.reduceAdd, p7], by simp only [↓stU, stD, reduceEqDiff, ↓reduceIte, Nat.reduceAdd]⟩
    · refine wpc_non (by simp only [↓stU, stD, reduceEqDiff, ↓reduceIte, Nat.reduceAdd, decide_eq_false (show ¬ (i : Int) < ((m.length : Nat) : Int) by omega)]) (wpc_exit ?_)
      simp only [↓stU, stD, reduceEqDiff, ↓reduceIte, Nat.reduceAdd]
      have hk0 : k = 0 := by omega
      subst hk0
      exact ⟨rfl, hY, hb, i, R, hik, hR, he, hc, by simp only [↓stU, stD, reduceEqDiff, ↓reduceIte, Nat.reduceAdd, p1], by simp only [↓stU, stD, reduceEqDiff, ↓reduceIte, Nat.reduceAdd, p7], by simp only [↓stU, stD, reduceEqDiff, ↓reduceIte, Nat.reduceAdd, p8]⟩
  rintro o ⟨F, inr⟩ Y ⟨rfl, q0, hY, hb, i, R, hik, hR, he, hc, p1, p7, p8⟩
  simp only at q0 p7
  subst q0
  rw [List.drop_of_length_le (by omega)] at he
  have he : R = invL m := he
  subst he
  try simp only [↓stU, stD, reduceEqDiff, ↓reduceIte, Nat.reduceAdd]
  refine wsr ?_
  simp only [↓stU, stD, reduceEqDiff, ↓reduceIte, Nat.reduceAdd, p7]
  refine wpc_ret ?_
  simp only [↓stU, stD, reduceEqDiff, ↓reduceIte, Nat.reduceAdd]
  exact ⟨sX.trans hY, _, rfl, fun h => absurd rfl h, row_sl hc hb hR⟩
end Go.Ev.Gl

namespace Go.Ev.Gl
variable {fns : T AFn}

/-! ## The program's Inverse (given the image) -/
def InvJ (S1 : St) (rb : Nat) (mv : AV) (m : List Int) (k : Nat) (A : Act') (X : St) : Prop := A.inr = false ∧ Same S1 X ∧ rb < X.nx ∧ ∃ i R, i + k = m.length ∧ R.length = m.length ∧ plcN (m.drop i) i R = invL m ∧ X.h.get rb = some (.cells (cells64 R) false 0) ∧ tmpV 31 A.F = mv ∧ tmpV 32 A.F = .int .i64 ((m.length : Nat) : Int) ∧ tmpV 8 A.F = .sl rb 0 m.length m.length false ∧ tmpV 33 A.F = .int .i64 (i : Int)
set_option maxHeartbeats 1000000 in
theorem inverse_spec {S : St} {nv iv mv : AV} {g : PGame} {m : List Int} {ok : Prop} {P : St → St → AV → AV → Prop} (H : Has fns) (hP : Stable P) (hn : IsSlG 6 NodeE S nv g.nodes) (hi : IsSlG 2 InfoE S iv g.infos) (hm : IsSl .i64 S mv m) (hln : g.nodes.length ≤ 100000) (himg : ImgH fns S nv iv mv g m ok P) :
    wpf fns (.fn 18 [] []) [.agg [.int .i64 g.players, nv, iv], mv] S fun r S' => Same S S' ∧ ∃ v, r = .tup [v, .int .i64 (chkE g m ok)] ∧ (chkE g m ok ≠ 0 → v = .nilsl) ∧ (chkE g m ok = 0 → IsSl .i64 S' v (invL m)) := by
  refine wpf_fn H.f18 (by simp) ?_
  simp only [↓stU, stD, reduceEqDiff, ↓reduceIte, ↓stV, stW, Nat.reduceAdd]
  refine wsr ?_
  refine wpo_box (by simp only [↓stU, stD, reduceEqDiff, ↓reduceIte, ↓stV, stW, Nat.reduceAdd]; exact cells_agg _) ?_
  intro S1 s1 n1 c1
  simp only [↓stU, stD, reduceEqDiff, ↓reduceIte, ↓stV, stW, Nat.reduceAdd]
  refine wsr ?_
  simp only [↓stU, stD, reduceEqDiff, ↓reduceIte, ↓stV, stW, Nat.reduceAdd, lg3_a c1]
  refine wpo_call ?_
  simp only [↓stU, stD, reduceEqDiff, ↓reduceIte, ↓stV, stW, Nat.reduceAdd]
  refine wpf_mono (look_spec H (IsSlG.same (E := NodeE) firm_node hn s1) (IsSlG.same (E := InfoE) firm_info hi s1) hln) ?_
  rintro _ W ⟨hW, p, rfl, hok⟩
  have sW := s1.trans hW
  simp only [↓stU, stD, reduceEqDiff, ↓reduceIte, ↓stV, stW, Nat.reduceAdd, ex0, ex1]
  refine wss ?_
  simp only [↓stU, stD, reduceEqDiff, ↓reduceIte, ↓stV, stW, Nat.reduceAdd]
  by_cases h0 : formE g = 0
  rotate_left
  · have hE : chkE g m ok = formE g := by unfold chkE; rw [if_pos h0]
    rw [hE]
    refine wpc_yes (by simp only [↓stU, stD, reduceEqDiff, ↓reduceIte, ↓stV, stW, Nat.reduceAdd, decide_eq_true (show formE g ≠ 0 from h0)]) ?_
    refine wsr ?_
    simp only [↓stU, stD, reduceEqDiff, ↓reduceIte, ↓stV, stW, Nat.reduceAdd]
    refine wpc_ret ?_
    simp only [↓stU, stD, reduceEqDiff, ↓reduceIte, ↓stV, stW, Nat.reduceAdd]
    exact ⟨sW, .nilsl, rfl, fun _ => rfl, fun h => absurd h h0⟩
  have hC : chkE g m ok = mapE g.nodes.length m ok := by unfold chkE; rw [if_neg (fun h => h h0)]
  rw [hC]
  refine wpc_non (by simp only [↓stU, stD, reduceEqDiff, ↓reduceIte, ↓stV, stW, Nat.reduceAdd, decide_eq_false (show ¬ formE g ≠ 0 from fun h => h h0)]) (wpc_skip ?_)
  try simp only [↓stU, stD, reduceEqDiff, ↓reduceIte, ↓stV, stW, Nat.reduceAdd]
  obtain ⟨wb, plb, szb, pv, TT, Z, rfl, _, hT, hTl, hpv, hB⟩ := hok h0
  refine wss ?_
  simp only [↓stU, stD, reduceEqDiff, ↓reduceIte, ↓stV, stW, Nat.reduceAdd]
  refine wpo_call ?_
  simp only [↓stU, stD, reduceEqDiff, ↓reduceIte, ↓stV, stW, Nat.reduceAdd]
  refine wpf_mono (fault_spec (P := P) (ok := ok) H hP hB.w (IsSlG.same (E := NodeE) firm_node hn sW) (hm.same sW) hln fun h1 h2 h3 S' hS' => himg h0 h1 h2 h3 S' wb plb szb pv TT Z (sW.trans hS') hT hTl (hpv.same hS') (hB.same hS')) ?_
  rintro _ X ⟨hX, x, y, rfl, _⟩
  have sX := sW.trans hX
  simp only [↓stU, stD, reduceEqDiff, ↓reduceIte, ↓stV, stW, Nat.reduceAdd, ex0, ex1]
  refine wsr ?_
  simp only [↓stU, stD, reduceEqDiff, ↓reduceIte, ↓stV, stW, Nat.reduceAdd]
  by_cases ha0 : mapE g.nodes.length m ok = 0
  rotate_left
  · refine wpc_yes (by simp only [↓stU, stD, reduceEqDiff, ↓reduceIte, ↓stV, stW, Nat.reduceAdd, decide_eq_true (show mapE g.nodes.length m ok ≠ 0 from ha0)]) ?_
    refine wsr ?_
    simp only [↓stU, stD, reduceEqDiff, ↓reduceIte, ↓stV, stW, Nat.reduceAdd]
    refine wpc_ret ?_
    simp only [↓stU, stD, reduceEqDiff, ↓reduceIte, ↓stV, stW, Nat.reduceAdd]
    exact ⟨sX, .nilsl, rfl, fun _ => rfl, fun h => absurd h ha0⟩
  obtain ⟨h1, h2, h3, hk⟩ := mapE_zero ha0
  rw [← h1] at h2
  have hmX := hm.same sX
  rw [ha0]
  refine wpc_non (by simp only [↓stU, stD, reduceEqDiff, ↓reduceIte, ↓stV, stW, Nat.reduceAdd, ha0]; rfl) (wpc_skip ?_)
  try simp only [↓stU, stD, reduceEqDiff, ↓reduceIte, ↓stV, stW, Nat.reduceAdd]
  refine wsr ?_
  simp only [↓stU, stD, reduceEqDiff, ↓reduceIte, Nat.reduceAdd, hm.len, Int.ofNat_eq_natCast]
  refine wpo_al (evA_mk (n := m.length) (by simp only [↓stU, stD, reduceEqDiff, ↓reduceIte, Nat.reduceAdd, natOf_cast]) (by simp only [↓stU, stD, reduceEqDiff, ↓reduceIte, Nat.reduceAdd, natOf_cast]) (by unfold room; omega) (by unfold room; omega)) ?_
  intro X1 x1 m1 d1
  rw [zeros64] at d1
  simp only [↓stU, stD, reduceEqDiff, ↓reduceIte, Nat.reduceAdd]
  refine wpc_seq (wpc_mono (Q := fun o A' Y => o = .normal ∧ InvJ X X.nx mv m 0 A' Y) (wpc_seq (wpc_reg ?_)) ?_)
  · simp only [↓stU, stD, reduceEqDiff, ↓reduceIte, Nat.reduceAdd, hm.len, Int.ofNat_eq_natCast]
    refine wpc_block (wpc_loop (InvJ X X.nx mv m) ?_ m.length _ _ ⟨rfl, x1, by omega, 0, _, by omega, List.length_replicate .., rfl, d1, by simp only [↓stU, stD, reduceEqDiff, ↓reduceIte, Nat.reduceAdd], by simp only [↓stU, stD, reduceEqDiff, ↓reduceIte, Nat.reduceAdd], by simp only [↓stU, stD, reduceEqDiff, ↓reduceIte, Nat.reduceAdd], by simp only [↓stU, stD, reduceEqDiff, ↓reduceIte, Nat.reduceAdd]⟩)
    rintro k ⟨F, inr⟩ Y ⟨q0, hY, hb, i, R, hik, hR, he, hc, p31, p32, p8, p33⟩
    simp only at q0 p31 p32 p8 p33
    subst q0
    refine wsr ?_
    simp only [↓stU, stD, reduceEqDiff, ↓reduceIte, Nat.reduceAdd, p32, p33]
    by_cases hlt : i < m.length
    · refine wpc_seq (wpc_yes (by simp only [↓stU, stD, reduceEqDiff, ↓reduceIte, Nat.reduceAdd, decide_eq_true (show (i : Int) < ((m.length : Nat) : Int) by omega)]) (wpc_skip ?_))
      try simp only [↓stU, stD, reduceEqDiff, ↓reduceIte, Nat.reduceAdd]
      have ia := (hmX.same hY).iaddr hlt
      have la := (hmX.same hY).ld hlt
      have hdr : m.drop i = m[i] :: m.drop (i + 1) := List.drop_eq_getElem_cons hlt
      have hgd : m.getD i 0 = m[i] := by rw [List.getD_eq_getElem?_getD, List.getElem?_eq_getElem hlt]; rfl
      rw [hgd] at la
      rw [hdr] at he
      obtain ⟨v0, v1⟩ := h2 _ (List.getElem_mem hlt)
      generalize m[i] = c at *
      obtain ⟨u, rfl⟩ : ∃ u : Nat, c = (u : Int) := ⟨c.toNat, by omega⟩
      have hu : u < m.length := by omega
      have hia := row_ia (b := X.nx) (o := false) hu
      have w1 : IntKind.i64.wrap ((i : Int) + 1) = ((i + 1 : Nat) : Int) := by rw [wrap_i64 (by omega) (by omega)]; omega
      simp only [plcN, Int.toNat_natCast] at he
      refine wpc_seq (wpc_block (wpc_seq (wpc_reg ?_)))
      simp only [↓stU, stD, reduceEqDiff, ↓reduceIte, Nat.reduceAdd, p31, p33, natOf_cast, ia, la]
      refine wpc_reg ?_
      simp only [↓stU, stD, reduceEqDiff, ↓reduceIte, Nat.reduceAdd, p8, natOf_cast, hia]
      refine wpo_x (fun call => by simp only [↓stU, stD, reduceEqDiff, ↓reduceIte, Nat.reduceAdd, evX_st, cells_int]; exact st64 (S := Y) hc (by rw [hR]; exact hu)) ?_
      simp only [↓stU, stD, reduceEqDiff, ↓reduceIte, Nat.reduceAdd]
      refine wpc_reg ?_
      simp only [↓stU, stD, reduceEqDiff, ↓reduceIte, Nat.reduceAdd, p33, w1]
      exact ⟨k - 1, by omega, rfl, hY.put (Nat.le_refl _) _, hb, i + 1, R.set u (i : Int), by omega, by rw [List.length_set]; exact hR, he, by simp only; rw [T.get_set, if_pos rfl], by simp only [↓stU, stD, reduceEqDiff, ↓reduceIte, Nat.reduceAdd, p31], by simp only [↓stU, stD, reduceEqDiff, ↓reduceIte, Nat.reduceAdd, p32], by simp only [↓stU, stD, reduceEqDiff, ↓reduceIte, Nat.reduceAdd, p8], by simp only [↓stU, stD, reduceEqDiff, ↓reduceIte, Nat.reduceAdd]⟩
    · refine wpc_seq (wpc_non (by simp only [↓stU, stD, reduceEqDiff, ↓reduceIte, Nat.reduceAdd, decide_eq_false (show ¬ (i : Int) < ((m.length : Nat) : Int) by omega)]) (wpc_exit ?_))
      simp only [↓stU, stD, reduceEqDiff, ↓reduceIte, Nat.reduceAdd]
      have hk0 : k = 0 := by omega
      subst hk0
      exact ⟨rfl, hY, hb, i, R, hik, hR, he, hc, by simp only [↓stU, stD, reduceEqDiff, ↓reduceIte, Nat.reduceAdd, p31], by simp only [↓stU, stD, reduceEqDiff, ↓reduceIte, Nat.reduceAdd, p32], by simp only [↓stU, stD, reduceEqDiff, ↓reduceIte, Nat.reduceAdd, p8], by simp only [↓stU, stD, reduceEqDiff, ↓reduceIte, Nat.reduceAdd, p33]⟩
  rintro o ⟨F, inr⟩ Y ⟨rfl, q0, hY, hb, i, R, hik, hR, he, hc, p31, p32, p8, p33⟩
  simp only at q0 p8
  subst q0
  rw [List.drop_of_length_le (by omega)] at he
  have he : R = invL m := he
  subst he
  try simp only [↓stU, stD, reduceEqDiff, ↓reduceIte, Nat.reduceAdd]
  refine wsr ?_
  simp only [↓stU, stD, reduceEqDiff, ↓reduceIte, Nat.reduceAdd, p8]
  refine wpc_ret ?_
  simp only [↓stU, stD, reduceEqDiff, ↓reduceIte, Nat.reduceAdd]
  exact ⟨sX.trans hY, _, rfl, fun h => absurd rfl h, row_sl hc hb hR⟩
end Go.Ev.Gl

namespace Go.Ev.Gl
variable {fns : T AFn}

/-! ## Automorphisms, plain -/
def nodeAt (g : PGame) (i : Nat) : PNode := g.nodes.getD i ⟨0, 0, 0, [], [], []⟩
/-- the image of a node -/
def toM (m : List Int) (i : Nat) : Nat := (m.getD i 0).toNat
/-- the place of the image of the k-th child of i below the image of i; -1 if it is not there -/
def kidP (g : PGame) (m : List Int) (i k : Nat) : Int := placeF (nodeAt g (toM m i)).next 0 (m.getD ((nodeAt g i).next.getD k 0).toNat 0)
structure Auto (g : PGame) (m : List Int) : Prop where
  root : m.getD 0 0 = 0
  like : ∀ i, i < g.nodes.length → (nodeAt g i).kind = (nodeAt g (toM m i)).kind ∧ (nodeAt g i).next.length = (nodeAt g (toM m i)).next.length ∧ (nodeAt g i).pay = (nodeAt g (toM m i)).pay ∧ (nodeAt g i).player = (nodeAt g (toM m i)).player
  kid : ∀ i k, i < g.nodes.length → k < (nodeAt g i).next.length → 0 ≤ kidP g m i k
  weigh : ∀ i k, i < g.nodes.length → k < (nodeAt g i).next.length → (nodeAt g i).kind = 1 → (nodeAt g i).weights.getD k 0 = (nodeAt g (toM m i)).weights.getD (kidP g m i k).toNat 0
  info : ∀ i j, i < g.nodes.length → j < g.nodes.length → (nodeAt g i).kind = 2 → (nodeAt g j).kind = 2 → (nodeAt g i).info = (nodeAt g j).info → (nodeAt g (toM m i)).info = (nodeAt g (toM m j)).info ∧ ∀ k, k < (nodeAt g i).next.length → kidP g m i k = kidP g m j k
  inj : ∀ i j, i < g.nodes.length → j < g.nodes.length → (nodeAt g i).kind = 2 → (nodeAt g j).kind = 2 → (nodeAt g (toM m i)).info = (nodeAt g (toM m j)).info → (nodeAt g i).info = (nodeAt g j).info
/-- the first node of a set -/
def firstOf (g : PGame) (s : Nat) : Nat := firstN g.nodes 0 s - 1
/-- the images of the sets, and of their actions -/
def imgI (g : PGame) (m : List Int) : List Int := (List.range g.infos.length).map fun s => (nodeAt g (toM m (firstOf g s))).info
def imgA (g : PGame) (m : List Int) : List (List Int) := (List.range g.infos.length).map fun s => (List.range (nodeAt g (firstOf g s)).next.length).map fun k => kidP g m (firstOf g s) k
end Go.Ev.Gl

namespace Go.Ev.Gl
variable {fns : T AFn}

/-! ## What a game without an error is, plain -/
theorem nodeAt_get {g : PGame} {i : Nat} {x : PNode} (h : g.nodes[i]? = some x) : nodeAt g i = x := by unfold nodeAt; rw [List.getD_eq_getElem?_getD, h]; rfl
theorem nodeAt_some {g : PGame} {i : Nat} (h : i < g.nodes.length) : g.nodes[i]? = some (nodeAt g i) := by unfold nodeAt; rw [List.getD_eq_getElem?_getD, List.getElem?_eq_getElem h]; rfl
theorem nextOf_at (g : PGame) (i : Nat) : nextOf g i = (nodeAt g i).next := by
  unfold nextOf nodeAt
  rw [List.getD_eq_getElem?_getD]
  cases g.nodes[i]? <;> rfl
theorem firstN_at {i : Nat} : ∀ {l : List PNode} {s : Nat}, firstN l s i ≠ 0 → ∃ j x, l[j]? = some x ∧ firstN l s i = s + j + 1 ∧ x.kind = 2 ∧ x.info = (i : Int)
  | [], s, h => absurd rfl h
  | x :: l, s, h => by
    simp only [firstN] at h ⊢
    by_cases hx : x.kind = 2 ∧ x.info = (i : Int)
    · rw [if_pos hx]
      exact ⟨0, x, rfl, rfl, hx.1, hx.2⟩
    · rw [if_neg hx] at h ⊢
      obtain ⟨j, y, h1, h2, h3, h4⟩ := firstN_at h
      exact ⟨j + 1, y, by rw [List.getElem?_cons_succ]; exact h1, by rw [h2]; omega, h3, h4⟩
theorem node_pay {ps : Int} {ni : Nat} {x : PNode} (h : nodeE ps ni x = 0) (hp : ps ≤ 4) : x.pay.length ≤ 4 := by
  unfold nodeE at h
  split at h
  · split at h
    · cases h
    · rename_i hb
      unfold badC at hb
      omega
  · split at h
    · split at h
      · cases h
      · rename_i hb
        unfold badM at hb
        omega
    · split at h
      · split at h
        · cases h
        · rename_i hb
          unfold badE at hb
          omega
      · cases h
structure GoodG (g : PGame) : Prop where
  n1 : 0 < g.nodes.length
  n2 : g.nodes.length ≤ 2000
  ni : g.infos.length ≤ 200
  nxt : ∀ i, i < g.nodes.length → (nodeAt g i).next.length ≤ 1000
  pay : ∀ i, i < g.nodes.length → (nodeAt g i).pay.length ≤ 4
  wts : ∀ i, i < g.nodes.length → (nodeAt g i).kind = 1 → (nodeAt g i).weights.length = (nodeAt g i).next.length
  inf : ∀ i, i < g.nodes.length → (nodeAt g i).kind = 2 → 0 ≤ (nodeAt g i).info ∧ (nodeAt g i).info < g.infos.length ∧ (infoAt g (nodeAt g i).info).actions = (((nodeAt g i).next.length : Nat) : Int)
  fst : ∀ s, s < g.infos.length → firstOf g s < g.nodes.length ∧ (nodeAt g (firstOf g s)).kind = 2 ∧ (nodeAt g (firstOf g s)).info = (s : Int)
  walk : ∃ T, walkG g = some T ∧ T.length = g.nodes.length ∧ WF (nextOf g) 0 (-1) T
theorem good_of {g : PGame} (h : formE g = 0) : GoodG g := by
  unfold formE at h
  split at h
  · cases h
  rename_i hb
  split at h
  · rename_i h1; exact absurd h h1
  rename_i hN
  have hN := Decidable.not_not.1 hN
  cases hW : walkG g with
  | none => rw [hW] at h; cases h
  | some T =>
    rw [hW] at h
    simp only at h
    split at h
    · cases h
    rename_i hT
    split at h
    · cases h
    unfold setsE at h
    split at h
    · cases h
    rename_i hmis
    split at h
    · cases h
    rename_i hfst
    unfold badG at hb
    have hmem : ∀ i, i < g.nodes.length → nodeAt g i ∈ g.nodes := fun i hi => List.mem_of_getElem? (nodeAt_some hi)
    refine ⟨by omega, by omega, by omega, fun i hi => node_next (nodesE_all hN _ (hmem i hi)), fun i hi => node_pay (nodesE_all hN _ (hmem i hi)) (by omega), fun i hi hk => ?_, fun i hi hk => ?_, fun s hs => ?_, T, hW, by omega, ?_⟩
    · have := nodesE_all hN _ (hmem i hi)
      unfold nodeE at this
      rw [if_pos hk] at this
      split at this
      · cases this
      · rename_i hc
        unfold badC at hc
        omega
    · obtain ⟨a, b⟩ := node_info (nodesE_all hN _ (hmem i hi)) hk
      refine ⟨a, b, Decidable.byContradiction fun hne => hmis ⟨_, hmem i hi, hk, fun hh => hne hh.2⟩⟩
    · have hne : firstN g.nodes 0 s ≠ 0 := fun e => hfst (by
        unfold firstsL
        exact List.mem_map.2 ⟨s, List.mem_range.2 hs, by rw [e]; rfl⟩)
      obtain ⟨j, x, h1, h2, h3, h4⟩ := firstN_at hne
      have e : firstOf g s = j := by unfold firstOf; omega
      rw [e, nodeAt_get h1]
      exact ⟨(List.getElem?_eq_some_iff.1 h1).1, h3, h4⟩
    · unfold walkG at hW
      exact walk_facts hW

/-! ## What has been seen of a map -/
def Like (g : PGame) (m : List Int) (i : Nat) : Prop := (nodeAt g i).kind = (nodeAt g (toM m i)).kind ∧ (nodeAt g i).next.length = (nodeAt g (toM m i)).next.length ∧ (nodeAt g i).pay = (nodeAt g (toM m i)).pay ∧ (nodeAt g i).player = (nodeAt g (toM m i)).player
def Weigh (g : PGame) (m : List Int) (i k : Nat) : Prop := (nodeAt g i).kind = 1 → (nodeAt g i).weights.getD k 0 = (nodeAt g (toM m i)).weights.getD (kidP g m i k).toNat 0
structure Seen (g : PGame) (m : List Int) (V : Nat → Prop) (W : Nat → Nat → Prop) (I : List Int) (A : List (List Int)) : Prop where
  li : I.length = g.infos.length
  la : A.length = g.infos.length
  ls : ∀ s, s < g.infos.length → (((A.getD s []).length : Nat) : Int) = (infoAt g (s : Int)).actions
  iv : ∀ j, j < g.nodes.length → V j → (nodeAt g j).kind = 2 → I.getD (nodeAt g j).info.toNat 0 = (nodeAt g (toM m j)).info
  iw : ∀ s, s < g.infos.length → 0 ≤ I.getD s 0 → ∃ j, j < g.nodes.length ∧ V j ∧ (nodeAt g j).kind = 2 ∧ (nodeAt g j).info = (s : Int)
  lk : ∀ j, j < g.nodes.length → V j → Like g m j
  kd : ∀ j k, j < g.nodes.length → k < (nodeAt g j).next.length → W j k → 0 ≤ kidP g m j k ∧ Weigh g m j k ∧ ((nodeAt g j).kind = 2 → (A.getD (nodeAt g j).info.toNat []).getD k 0 = kidP g m j k)
/-- a map of the nodes -/
structure MapG (g : PGame) (m : List Int) : Prop where
  len : m.length = g.nodes.length
  inn : InMap m g.nodes.length
section
variable {g : PGame} {m : List Int} {V V' : Nat → Prop} {W W' : Nat → Nat → Prop} {I F : List Int} {A : List (List Int)}
theorem MapG.at (h : MapG g m) {i : Nat} (hi : i < g.nodes.length) : m.getD i 0 = ((toM m i : Nat) : Int) ∧ toM m i < g.nodes.length := by
  have hl : i < m.length := by rw [h.len]; exact hi
  have hmem : m.getD i 0 ∈ m := by rw [List.getD_eq_getElem?_getD, List.getElem?_eq_getElem hl]; exact List.getElem_mem _
  have := h.inn _ hmem
  unfold toM
  omega
theorem Seen.congr (h : Seen g m V W I A) (hV : ∀ j, j < g.nodes.length → (V j ↔ V' j)) (hW : ∀ j k, j < g.nodes.length → k < (nodeAt g j).next.length → W' j k → W j k) : Seen g m V' W' I A :=
  ⟨h.li, h.la, h.ls, fun j hj hv => h.iv j hj ((hV j hj).2 hv), fun s hs h0 => by obtain ⟨j, a, b, c⟩ := h.iw s hs h0; exact ⟨j, a, (hV j a).1 b, c⟩, fun j hj hv => h.lk j hj ((hV j hj).2 hv), fun j k hj hk hw => h.kd j k hj hk (hW j k hj hk hw)⟩
theorem getD_set0 {l : List Int} {n j : Nat} {x : Int} (hn : n < l.length) : (l.set n x).getD j 0 = if n = j then x else l.getD j 0 := by
  rw [List.getD_eq_getElem?_getD, List.getElem?_set]
  split
  · rfl
  · rw [List.getD_eq_getElem?_getD]
theorem getD_setL {l : List (List Int)} {n j : Nat} {x : List Int} (hn : n < l.length) : (l.set n x).getD j [] = if n = j then x else l.getD j [] := by
  rw [List.getD_eq_getElem?_getD, List.getElem?_set]
  split
  · rfl
  · rw [List.getD_eq_getElem?_getD]
/-- the image of a move is a move -/
theorem like_info (G : GoodG g) (M : MapG g m) {i : Nat} (hi : i < g.nodes.length) (hl : Like g m i) (hk : (nodeAt g i).kind = 2) : 0 ≤ (nodeAt g (toM m i)).info ∧ (nodeAt g (toM m i)).info < g.infos.length := by
  have := G.inf (toM m i) (M.at hi).2 (by rw [← hl.1]; exact hk)
  exact ⟨this.1, this.2.1⟩
theorem Seen.node (h : Seen g m V W I A) {i : Nat} (hl : Like g m i) (hk : (nodeAt g i).kind ≠ 2) : Seen g m (fun j => V j ∨ j = i) W I A :=
  ⟨h.li, h.la, h.ls, fun j hj hv hk' => by
    rcases hv with hv | rfl
    · exact h.iv j hj hv hk'
    · exact absurd hk' hk, fun s hs h0 => by obtain ⟨j, a, b, c⟩ := h.iw s hs h0; exact ⟨j, a, .inl b, c⟩, fun j hj hv => by
    rcases hv with hv | rfl
    · exact h.lk j hj hv
    · exact hl, h.kd⟩
theorem Seen.nodeM (G : GoodG g) (M : MapG g m) (h : Seen g m V W I A) {i : Nat} (hi : i < g.nodes.length) (hl : Like g m i) (hk : (nodeAt g i).kind = 2) (hI : 0 ≤ I.getD (nodeAt g i).info.toNat 0 → I.getD (nodeAt g i).info.toNat 0 = (nodeAt g (toM m i)).info) : Seen g m (fun j => V j ∨ j = i) W (I.set (nodeAt g i).info.toNat (nodeAt g (toM m i)).info) A := by
  obtain ⟨a1, a2, a3⟩ := G.inf i hi hk
  have hlt : (nodeAt g i).info.toNat < I.length := by rw [h.li]; omega
  refine ⟨by rw [List.length_set]; exact h.li, h.la, h.ls, fun j hj hv hk' => ?_, fun s hs h0 => ?_, fun j hj hv => ?_, h.kd⟩
  · rw [getD_set0 hlt]
    obtain ⟨b1, b2, b3⟩ := G.inf j hj hk'
    rcases hv with hv | rfl
    · have := h.iv j hj hv hk'
      split
      · rename_i e
        have e' : (nodeAt g j).info = (nodeAt g i).info := by omega
        rw [e'] at this
        have := hI (by rw [this]; exact (like_info G M hj (h.lk j hj hv) hk').1)
        omega
      · exact this
    · rw [if_pos rfl]
  · rw [getD_set0 hlt] at h0
    split at h0
    · rename_i e
      exact ⟨i, hi, .inr rfl, hk, by omega⟩
    · obtain ⟨j, a, b, c⟩ := h.iw s hs h0
      exact ⟨j, a, .inl b, c⟩
  · rcases hv with hv | rfl
    · exact h.lk j hj hv
    · exact hl
theorem Seen.kid (h : Seen g m V W I A) {i k : Nat} (h0 : 0 ≤ kidP g m i k) (hw : Weigh g m i k) (hk : (nodeAt g i).kind ≠ 2) : Seen g m V (fun j k' => W j k' ∨ (j = i ∧ k' = k)) I A :=
  ⟨h.li, h.la, h.ls, h.iv, h.iw, h.lk, fun j k' hj hk' hv => by
    rcases hv with hv | ⟨rfl, rfl⟩
    · exact h.kd j k' hj hk' hv
    · exact ⟨h0, hw, fun e => absurd e hk⟩⟩
theorem Seen.kidM (G : GoodG g) (h : Seen g m V W I A) {i k : Nat} (hi : i < g.nodes.length) (hkl : k < (nodeAt g i).next.length) (h0 : 0 ≤ kidP g m i k) (hw : Weigh g m i k) (hk : (nodeAt g i).kind = 2)
    (hA : ∀ j, j < g.nodes.length → W j k → (nodeAt g j).kind = 2 → (nodeAt g j).info = (nodeAt g i).info → (A.getD (nodeAt g i).info.toNat []).getD k 0 = kidP g m i k) :
    Seen g m V (fun j k' => W j k' ∨ (j = i ∧ k' = k)) I (A.set (nodeAt g i).info.toNat ((A.getD (nodeAt g i).info.toNat []).set k (kidP g m i k))) := by
  obtain ⟨a1, a2, a3⟩ := G.inf i hi hk
  have hlt : (nodeAt g i).info.toNat < A.length := by rw [h.la]; omega
  have hls := h.ls (nodeAt g i).info.toNat (by omega)
  rw [show (((nodeAt g i).info.toNat : Nat) : Int) = (nodeAt g i).info by omega, a3] at hls
  refine ⟨h.li, by rw [List.length_set]; exact h.la, fun s hs => ?_, h.iv, h.iw, h.lk, fun j k' hj hk' hv => ?_⟩
  · rw [getD_setL hlt]
    split
    · rename_i e
      rw [List.length_set, e]
      exact h.ls s hs
    · exact h.ls s hs
  · have key : (nodeAt g j).kind = 2 → ((A.set (nodeAt g i).info.toNat ((A.getD (nodeAt g i).info.toNat []).set k (kidP g m i k))).getD (nodeAt g j).info.toNat []).getD k' 0 = if (nodeAt g j).info = (nodeAt g i).info ∧ k = k' then kidP g m i k else (A.getD (nodeAt g j).info.toNat []).getD k' 0 := fun hkj => by
      obtain ⟨b1, b2, b3⟩ := G.inf j hj hkj
      rw [getD_setL hlt]
      by_cases e : (nodeAt g j).info = (nodeAt g i).info
      · rw [if_pos (by rw [e]), getD_set0 (by omega), e]
        by_cases e2 : k = k'
        · rw [if_pos e2, if_pos ⟨rfl, e2⟩]
        · rw [if_neg e2, if_neg (fun h => e2 h.2)]
      · rw [if_neg (by omega), if_neg (fun h => e h.1)]
    rcases hv with hv | ⟨rfl, rfl⟩
    · obtain ⟨c1, c2, c3⟩ := h.kd j k' hj hk' hv
      refine ⟨c1, c2, fun hkj => ?_⟩
      rw [key hkj]
      split
      · rename_i e
        obtain ⟨e1, rfl⟩ := e
        have := c3 hkj
        rw [← hA j hj hv hkj e1, ← e1]
        exact this
      · exact c3 hkj
    · exact ⟨h0, hw, fun hkj => by rw [key hkj, if_pos ⟨rfl, rfl⟩]⟩
/-! ### a map that is no automorphism -/
theorem no_like {i : Nat} (hi : i < g.nodes.length) (h : ¬ Like g m i) : ¬ Auto g m := fun a => h (a.like i hi)
theorem no_kid {i k : Nat} (hi : i < g.nodes.length) (hk : k < (nodeAt g i).next.length) (h : ¬ 0 ≤ kidP g m i k) : ¬ Auto g m := fun a => h (a.kid i k hi hk)
theorem no_weigh {i k : Nat} (hi : i < g.nodes.length) (hk : k < (nodeAt g i).next.length) (h : ¬ Weigh g m i k) : ¬ Auto g m := fun a => h (a.weigh i k hi hk)
theorem Seen.no_info (h : Seen g m V W I A) (G : GoodG g) {i : Nat} (hi : i < g.nodes.length) (hk : (nodeAt g i).kind = 2) (h0 : 0 ≤ I.getD (nodeAt g i).info.toNat 0) (h1 : I.getD (nodeAt g i).info.toNat 0 ≠ (nodeAt g (toM m i)).info) : ¬ Auto g m := fun a => by
  obtain ⟨a1, a2, a3⟩ := G.inf i hi hk
  obtain ⟨j, b1, b2, b3, b4⟩ := h.iw _ (by omega) h0
  have e : (nodeAt g j).info = (nodeAt g i).info := by omega
  have := h.iv j b1 b2 b3
  rw [e] at this
  exact h1 (this.trans (a.info j i b1 hi b3 hk e).1)
theorem Seen.no_act (h : Seen g m V W I A) (G : GoodG g) {i j k : Nat} (hi : i < g.nodes.length) (hj : j < g.nodes.length) (hk : (nodeAt g i).kind = 2) (hkj : (nodeAt g j).kind = 2) (e : (nodeAt g j).info = (nodeAt g i).info) (hkl : k < (nodeAt g i).next.length) (hW : W j k) (h1 : (A.getD (nodeAt g i).info.toNat []).getD k 0 ≠ kidP g m i k) : ¬ Auto g m := fun a => by
  have a3 := (G.inf i hi hk).2.2
  have b3 := (G.inf j hj hkj).2.2
  rw [e, a3] at b3
  have := (h.kd j k hj (by omega) hW).2.2 hkj
  rw [e] at this
  exact h1 (this.trans ((a.info j i hj hi hkj hk e).2 k (by omega)))
theorem Seen.no_inj (h : Seen g m (fun _ => True) W I A) (G : GoodG g) {a b : Nat} (ha : a < g.infos.length) (hb : b < g.infos.length) (hab : b ≠ a) (he : I.getD a 0 = I.getD b 0) : ¬ Auto g m := fun u => by
  obtain ⟨f1, f2, f3⟩ := G.fst a ha
  obtain ⟨e1, e2, e3⟩ := G.fst b hb
  have ia := h.iv _ f1 trivial f2
  have ib := h.iv _ e1 trivial e2
  rw [f3, Int.toNat_natCast] at ia
  rw [e3, Int.toNat_natCast] at ib
  have := u.inj _ _ f1 e1 f2 e2 (by rw [← ia, ← ib, he])
  omega
theorem Seen.inj (h : Seen g m (fun _ => True) W I A) (G : GoodG g) (hd : ∀ a b, b < a → a < g.infos.length → I.getD a 0 ≠ I.getD b 0) : ∀ i j, i < g.nodes.length → j < g.nodes.length → (nodeAt g i).kind = 2 → (nodeAt g j).kind = 2 → (nodeAt g (toM m i)).info = (nodeAt g (toM m j)).info → (nodeAt g i).info = (nodeAt g j).info := fun i j hi hj hki hkj e => by
  obtain ⟨a1, a2, _⟩ := G.inf i hi hki
  obtain ⟨b1, b2, _⟩ := G.inf j hj hkj
  have ia := h.iv i hi trivial hki
  have ib := h.iv j hj trivial hkj
  rcases Nat.lt_trichotomy (nodeAt g i).info.toNat (nodeAt g j).info.toNat with h1 | h1 | h1
  · exact absurd (by rw [ia, ib, e]) (hd _ _ h1 (by omega))
  · omega
  · exact absurd (by rw [ia, ib, e]) (hd _ _ h1 (by omega))
/-- what is known at the end -/
theorem Seen.auto (h : Seen g m (fun _ => True) (fun _ _ => True) I A) (G : GoodG g) (root : m.getD 0 0 = 0) (inj : ∀ i j, i < g.nodes.length → j < g.nodes.length → (nodeAt g i).kind = 2 → (nodeAt g j).kind = 2 → (nodeAt g (toM m i)).info = (nodeAt g (toM m j)).info → (nodeAt g i).info = (nodeAt g j).info) : Auto g m := by
  refine ⟨root, fun i hi => h.lk i hi trivial, fun i k hi hk => (h.kd i k hi hk trivial).1, fun i k hi hk => (h.kd i k hi hk trivial).2.1, fun i j hi hj hki hkj e => ⟨?_, fun k hk => ?_⟩, inj⟩
  · rw [← h.iv i hi trivial hki, ← h.iv j hj trivial hkj, e]
  · have a3 := (G.inf i hi hki).2.2
    have b3 := (G.inf j hj hkj).2.2
    rw [← e, a3] at b3
    rw [← (h.kd i k hi hk trivial).2.2 hki, ← (h.kd j k hj (by omega) trivial).2.2 hkj, e]
theorem Seen.imgI (h : Seen g m (fun _ => True) W I A) (G : GoodG g) : I = imgI g m := by
  refine rowEq (by rw [h.li]; simp [Gl.imgI]) fun s hs => ?_
  have hs : s < g.infos.length := by simpa [Gl.imgI] using hs
  obtain ⟨f1, f2, f3⟩ := G.fst s hs
  have := h.iv _ f1 trivial f2
  rw [f3] at this
  rw [show ((s : Int)).toNat = s by omega] at this
  rw [this]
  unfold Gl.imgI
  rw [List.getD_eq_getElem?_getD, List.getElem?_map, List.getElem?_range hs]
  rfl
theorem Seen.imgA (h : Seen g m V (fun _ _ => True) I A) (G : GoodG g) : A = imgA g m := by
  refine List.ext_getElem? fun s => ?_
  by_cases hs : s < g.infos.length
  · obtain ⟨f1, f2, f3⟩ := G.fst s hs
    have a3 := (G.inf _ f1 f2).2.2
    have hl := h.ls s hs
    rw [f3] at a3
    unfold Gl.imgA
    rw [List.getElem?_map, List.getElem?_range hs, List.getElem?_eq_getElem (show s < A.length by rw [h.la]; exact hs)]
    have hA : A[s]'(by rw [h.la]; exact hs) = A.getD s [] := by rw [List.getD_eq_getElem?_getD, List.getElem?_eq_getElem (show s < A.length by rw [h.la]; exact hs)]; rfl
    rw [hA]
    show some _ = some _
    congr 1
    refine rowEq (by simp only [List.length_map, List.length_range]; omega) fun k hk => ?_
    have hk : k < (nodeAt g (firstOf g s)).next.length := by simpa using hk
    have := (h.kd _ k f1 hk trivial).2.2 f2
    rw [f3, show ((s : Int)).toNat = s by omega] at this
    rw [this, List.getD_eq_getElem?_getD, List.getElem?_map, List.getElem?_range hk]
    rfl
  · rw [List.getElem?_eq_none (by rw [h.la]; omega), List.getElem?_eq_none (by simp [Gl.imgA]; omega)]
end
end Go.Ev.Gl

namespace Go.Ev.Gl
variable {fns : T AFn}

/-! ## Rows in a block of slices -/
def rowV (b : Nat) (l : List Int) : AV := .sl b 0 l.length l.length false
structure Rws (S0 X : St) (bs : Nat → Nat) (cs : List AV) (A : List (List Int)) : Prop where
  cl : ∀ j, j < A.length → cs[j]? = some (rowV (bs j) (A.getD j []))
  bl : ∀ j, j < A.length → S0.nx ≤ bs j ∧ bs j < X.nx ∧ X.h.get (bs j) = some (.cells (cells64 (A.getD j [])) false 0)
  dj : ∀ j k, j < A.length → k < A.length → j ≠ k → bs j ≠ bs k
section
variable {S0 X X' : St} {bs : Nat → Nat} {cs : List AV} {A : List (List Int)}
theorem Rws.move (h : Rws S0 X bs cs A) (hn : X.nx ≤ X'.nx) (hh : ∀ j, j < A.length → X'.h.get (bs j) = X.h.get (bs j)) : Rws S0 X' bs cs A :=
  ⟨h.cl, fun j hj => by obtain ⟨a, b, c⟩ := h.bl j hj; exact ⟨a, Nat.lt_of_lt_of_le b hn, (hh j hj).trans c⟩, h.dj⟩
theorem Rws.same (h : Rws S0 X bs cs A) (hs : Same X X') : Rws S0 X' bs cs A := h.move hs.1 fun j hj => hs.2 _ (h.bl j hj).2.1
theorem Rws.none : Rws S0 X bs cs [] := ⟨fun j hj => absurd hj (Nat.not_lt_zero j), fun j hj => absurd hj (Nat.not_lt_zero j), fun j k hj => absurd hj (Nat.not_lt_zero j)⟩
theorem getD_appL {l : List (List Int)} {x : List Int} {j : Nat} : (l ++ [x]).getD j [] = if j = l.length then x else l.getD j [] := by
  rw [List.getD_eq_getElem?_getD, List.getD_eq_getElem?_getD]
  by_cases h : j < l.length
  · rw [List.getElem?_append_left h, if_neg (by omega)]
  · rw [List.getElem?_append_right (by omega)]
    by_cases e : j = l.length
    · rw [if_pos e, e, Nat.sub_self]; rfl
    · rw [if_neg e, List.getElem?_eq_none (by simp; omega), List.getElem?_eq_none (by omega)]
theorem Rws.add (h : Rws S0 X bs cs A) {nb : Nat} {l : List Int} {cs' : List AV} (h0 : S0.nx ≤ nb) (h1 : nb < X.nx) (hg : X.h.get nb = some (.cells (cells64 l) false 0)) (hne : ∀ j, j < A.length → bs j ≠ nb) (hc : ∀ j, j < A.length → cs'[j]? = cs[j]?) (hl : cs'[A.length]? = some (rowV nb l)) : Rws S0 X (fun j => if j = A.length then nb else bs j) cs' (A ++ [l]) := by
  refine ⟨fun j hj => ?_, fun j hj => ?_, fun j k hj hk hjk => ?_⟩
  · rw [List.length_append, List.length_singleton] at hj
    rw [getD_appL]
    try simp only
    by_cases e : j = A.length
    · rw [if_pos e, if_pos e, e]; exact hl
    · rw [if_neg e, if_neg e, hc j (by omega)]; exact h.cl j (by omega)
  · rw [List.length_append, List.length_singleton] at hj
    rw [getD_appL]
    try simp only
    by_cases e : j = A.length
    · rw [if_pos e, if_pos e]; exact ⟨h0, h1, hg⟩
    · rw [if_neg e, if_neg e]; exact h.bl j (by omega)
  · rw [List.length_append, List.length_singleton] at hj hk
    try simp only
    by_cases e : j = A.length
    · rw [if_pos e, if_neg (by omega)]; exact Ne.symm (hne k (by omega))
    · rw [if_neg e]
      by_cases e2 : k = A.length
      · rw [if_pos e2]; exact hne j (by omega)
      · rw [if_neg e2]; exact h.dj j k (by omega) (by omega) hjk
theorem Rws.put (h : Rws S0 X bs cs A) {s k : Nat} {v : Int} (hs : s < A.length) {n : Nat} (hn : X.nx ≤ n) : Rws S0 ⟨X.h.set (bs s) (some (.cells (cells64 ((A.getD s []).set k v)) false 0)), n⟩ bs cs (A.set s ((A.getD s []).set k v)) := by
  refine ⟨fun j hj => ?_, fun j hj => ?_, fun j k hj hk => ?_⟩
  · rw [List.length_set] at hj
    rw [getD_setL hs, h.cl j hj]
    split
    · rename_i e
      unfold rowV
      rw [List.length_set, e]
    · rfl
  · rw [List.length_set] at hj
    rw [getD_setL hs]
    obtain ⟨a, b, c⟩ := h.bl j hj
    refine ⟨a, Nat.lt_of_lt_of_le b hn, ?_⟩
    try simp only
    rw [T.get_set]
    by_cases e : s = j
    · rw [if_pos e, if_pos (by rw [e])]
    · rw [if_neg e, if_neg (h.dj j s hj hs (Ne.symm e))]; exact c
  · rw [List.length_set] at hj hk; exact h.dj j k hj hk
theorem Rws.is (h : Rws S0 X bs cs A) {ob cap sz : Nat} {o o' : Bool} (hob : X.h.get ob = some (.cells cs o sz)) (lt : ob < X.nx) (hc : A.length ≤ cap) : IsSlG 1 SlE X (.sl ob 0 A.length cap o') A := by
  refine .inr ⟨ob, 0, cap, o', cs, rfl, hc, lt, by unfold cellsAt; rw [hob]; rfl, fun i l hi => ?_⟩
  have hlt := (List.getElem?_eq_some_iff.1 hi).1
  have e : A.getD i [] = l := by rw [List.getD_eq_getElem?_getD, hi]; rfl
  have h1 := h.cl i hlt
  obtain ⟨_, h3, h4⟩ := h.bl i hlt
  rw [e] at h1 h4
  refine ⟨[rowV (bs i) l], rfl, fun j x hj => ?_, _, rfl, row_sl h4 h3 rfl⟩
  cases j with
  | zero =>
    cases hj
    rw [Nat.zero_add, Nat.mul_one, Nat.add_zero]
    exact h1
  | succ j => simp at hj
end
end Go.Ev.Gl

namespace Go.Ev.Gl
variable {fns : T AFn}

/-! ## The reference's images: the first loop -/
theorem GrW.push1 {bytes t n : Nat} {S0 S : St} {v x : AV} {cs : List AV} (h : GrW 1 S0 S v n cs) (hS : Same S0 S) (ht : S.h.get t = some (.cells [x] false 0)) (h1 : n + 1 ≤ room) (h2 : (n + 1) * bytes ≤ room) :
    ∃ v' S', appendV bytes 1 v (.sl t 0 1 1 false) S = some (v', S') ∧ GrW 1 S0 S' v' (n + 1) (cs ++ [x]) ∧ blkOf v' = some S.nx ∧ S'.nx = S.nx + 1 ∧ ∀ c, c < S.nx → blkOf v ≠ some c → S'.h.get c = S.h.get c := by
  have hs := src1 ht
  rcases h with ⟨rfl, rfl, rfl⟩ | ⟨b, rfl, hb0, hb, hg, hc⟩
  · refine ⟨.sl S.nx 0 1 1 true, ⟨S.h.set S.nx (some (.cells [x] true 1)), S.nx + 1⟩, ?_, .inr ⟨S.nx, by rw [Nat.zero_add], hS.1, by simp, ?_, ?_⟩, rfl, rfl, fun c hc _ => (Same.alloc S _).2 c hc⟩
    · show (osel (some 1) fun j => osel (srcCells (.sl t 0 1 1 false) S.h 1 j) fun new => appV .nilsl bytes 1 j new S) = _
      rw [osel_some, hs, osel_some]
      show appNil bytes 1 1 [x] S = _
      unfold appNil
      rw [show Nat.beq 1 0 = false from rfl, bsel_false, Nat.ble_eq_true_of_le (by omega), bsel_true, Nat.ble_eq_true_of_le (by rw [Nat.zero_add] at h2; exact h2), bsel_true]
      rfl
    · simp only
      rw [T.get_set, if_pos rfl]
      rfl
    · rfl
  · refine ⟨.sl S.nx 0 (n + 1) (n + 1) true, ⟨(S.h.set b none).set S.nx (some (.cells (cs ++ [x]) true 1)), S.nx + 1⟩, ?_, .inr ⟨S.nx, rfl, hS.1, by simp, ?_, by rw [List.length_append, hc, List.length_singleton, Nat.add_mul, Nat.one_mul]⟩, rfl, rfl, fun c hc hne => ?_⟩
    · show (osel (some 1) fun j => osel (srcCells (.sl t 0 1 1 false) S.h 1 j) fun new => appV (.sl b 0 n n true) bytes 1 j new S) = _
      rw [osel_some, hs, osel_some]
      show appSl bytes 1 b 0 n n true 1 [x] S = _
      unfold appSl
      have e2 : Nat.ble (n + 1) n = false := by rw [Bool.eq_false_iff]; intro h; have := Nat.le_of_ble_eq_true h; omega
      rw [e2, bsel_false, Nat.ble_eq_true_of_le h1, bsel_true, Nat.ble_eq_true_of_le h2, bsel_true, hg, osel_some]
      have e3 : cut cs 0 (n * 1) = some cs := by
        unfold cut
        rw [takeL_eq, dropL_eq, List.drop_zero, if_pos (by omega), List.take_of_length_le (by omega)]
      have e4 : Nat.beq (0 + n * 1) (lenL cs) = true := by rw [lenL_eq, hc, Nat.beq_eq]; omega
      simp only [growB, e3, osel_some, bsel_true, e4, show Nat.beq 1 1 = true from rfl, grown, appL_eq]
    · simp only
      rw [T.get_set, if_pos rfl]
    · simp only
      have : c ≠ b := fun e => hne (by rw [e]; rfl)
      rw [T.get_set, if_neg (by omega), T.get_set, if_neg this]
theorem evA_sl {t b n c : Nat} {o : Bool} {z : AV} {x : Opd} {F : Fr} {id : Nat} (hx : x.val F = .sl b 0 n c o) : evA (.bslice t 1 1 [z] [(0, x)]) F id = some (.sl id 0 1 1 false, .cells [.sl b 0 n c o] false 0) := by
  show (osel (fillP (repeatL [z] 1) [(0 * 1, 1, x.val F)]) fun cs => some (AV.sl id 0 1 1 false, AB.cells cs false 0)) = _
  rw [hx]
  rfl
theorem GrW.move {k n : Nat} {S0 S S' : St} {v : AV} {cs : List AV} (h : GrW k S0 S v n cs) (hn : S.nx ≤ S'.nx) (hh : ∀ c, blkOf v = some c → S'.h.get c = S.h.get c) : GrW k S0 S' v n cs := by
  rcases h with h | ⟨b, rfl, h2, h3, h4, h5⟩
  · exact .inl h
  · exact .inr ⟨b, rfl, h2, Nat.lt_of_lt_of_le h3 hn, (hh b rfl).trans h4, h5⟩
theorem GrW.csl {k n : Nat} {S0 S : St} {v : AV} {cs : List AV} (h : GrW k S0 S v n cs) : cs.length = n * k := by
  rcases h with ⟨_, rfl, rfl⟩ | ⟨b, _, _, _, _, h5⟩
  · rw [Nat.zero_mul]; rfl
  · exact h5
theorem IsSl.place {k : IntKind} {S : St} {v : AV} {l : List Int} (h : IsSl k S v l) {i : Nat} (hi : i < l.length) : ∃ b p, elemP v i = .ptr b p ∧ b < S.nx := by
  rcases h with ⟨h0, _⟩ | ⟨b, off, cap, o, cs, rfl, _, hb, _⟩
  · rw [h0] at hi; exact absurd hi (Nat.not_lt_zero _)
  · exact ⟨b, _, rfl, hb⟩
theorem ob_ne {h : Ev.T AB} {a b s s' : Nat} {cs cs' : List AV} (ha : h.get a = some (.cells cs false s)) (hb : h.get b = some (.cells cs' true s')) : a ≠ b := fun e => by
  rw [e, hb] at ha
  obtain ⟨_, h2, _⟩ := AB.cells.inj (Option.some.inj ha)
  cases h2
/-- two blocks that are laid and filled at the end of a region -/
theorem two_st {W : Nat → Prop} {h0 : Ev.T AB} {base : Nat} {F : Fr} {S : St} {Q : Fr → St → List Pend → Prop} {i a b n m1 m2 j1 j2 : Nat} {z cx cy : List AV} {t1 t2 u1 u2 : Opd} (ht1 : Nat.testBit m1 j1 = true) (ht2 : Nat.testBit m1 j2 = true) (hm2 : inMask (some i) m2 = true)
    (h1 : t1.val F = .ptr a 0) (h2 : t2.val F = .ptr b 0) (hu1 : (u1.val F).cells = some cx) (hu2 : (u2.val F).cells = some cy) (lz : z.length = n) (lx : cx.length = n) (ly : cy.length = n) (hab : a ≠ b) (hba : base ≤ a) (hbb : base ≤ b)
    (hr : ∀ S', S'.nx = S.nx → S'.h.get a = some (.cells cx false 0) → S'.h.get b = some (.cells cy false 0) → (∀ c, c ≠ a → c ≠ b → S'.h.get c = S.h.get c) → Q F S' []) :
    runD fns W h0 base [⟨none, .x (.st n t1 u1), none, m1⟩, ⟨none, .x (.st n t2 u2), none, m2⟩] i F S [⟨j2, b, .cells z false 0⟩, ⟨j1, a, .cells z false 0⟩] none Q := by
  have hf : flush m1 [⟨j2, b, .cells z false 0⟩, ⟨j1, a, .cells z false 0⟩] S.h = ([], (S.h.set b (some (.cells z false 0))).set a (some (.cells z false 0))) := by rw [flush_on ht2, flush_on ht1, flush_nil]
  have hg1 : ((S.h.set b (some (.cells z false 0))).set a (some (.cells z false 0))).get a = some (.cells z false 0) := by rw [T.get_set, if_pos rfl]
  have x1 := xst_all (S := ⟨(S.h.set b (some (.cells z false 0))).set a (some (.cells z false 0)), S.nx⟩) (cs' := cx) (n := n) hg1 lz lx
  refine runD_st (S1 := ⟨((S.h.set b (some (.cells z false 0))).set a (some (.cells z false 0))).set a (some (.cells cx false 0)), S.nx⟩) rfl ?_ ?_ ?_
  · rw [hf, h1, hu1, osel_some]; exact x1
  · rw [hf]; exact ⟨Nat.le_refl _, fun c hc _ => by simp only; rw [T.get_set, if_neg (by omega)]⟩
  rw [hf]
  have hg2 : (((S.h.set b (some (.cells z false 0))).set a (some (.cells z false 0))).set a (some (.cells cx false 0))).get b = some (.cells z false 0) := by rw [T.get_set, if_neg (Ne.symm hab), T.get_set, if_neg (Ne.symm hab), T.get_set, if_pos rfl]
  have x2 := xst_all (S := ⟨((S.h.set b (some (.cells z false 0))).set a (some (.cells z false 0))).set a (some (.cells cx false 0)), S.nx⟩) (cs' := cy) (n := n) hg2 lz ly
  refine runD_st (S1 := ⟨(((S.h.set b (some (.cells z false 0))).set a (some (.cells z false 0))).set a (some (.cells cx false 0))).set b (some (.cells cy false 0)), S.nx⟩) hm2 ?_ ?_ ?_
  · rw [flush_nil]
    show osel (u2.val F).cells (fun cs => xStV (t2.val F) n cs _) = _
    rw [h2, hu2, osel_some]; exact x2
  · rw [flush_nil]; exact ⟨Nat.le_refl _, fun c hc _ => by simp only; rw [T.get_set, if_neg (by omega)]⟩
  rw [flush_nil]
  refine hr _ rfl ?_ ?_ fun c hc1 hc2 => ?_
  · simp only; rw [T.get_set, if_neg hab, T.get_set, if_pos rfl]
  · simp only; rw [T.get_set, if_pos rfl]
  · simp only; rw [T.get_set, if_neg hc2, T.get_set, if_neg hc1, T.get_set, if_neg hc1, T.get_set, if_neg hc2]
theorem GrW.low {k n : Nat} {S S1 X : St} {v : AV} {cs : List AV} (h : GrW k S1 X v n cs) (hs : S.nx ≤ S1.nx) : GrW k S X v n cs := by
  rcases h with h | ⟨b, h1, h2, h3⟩
  · exact .inl h
  · exact .inr ⟨b, h1, Nat.le_trans hs h2, h3⟩
theorem Rws.low {S S1 X : St} {bs : Nat → Nat} {cs : List AV} {A : List (List Int)} (h : Rws S1 X bs cs A) (hs : S.nx ≤ S1.nx) : Rws S X bs cs A := ⟨h.cl, fun j hj => by obtain ⟨a, b⟩ := h.bl j hj; exact ⟨Nat.le_trans hs a, b⟩, h.dj⟩
/-- how many actions the sets have -/
def actN (g : PGame) : List (List Int) := g.infos.map fun x => List.replicate x.actions.toNat 0
def GroI (S1 : St) (gb : Nat) (mv : AV) (g : PGame) (k : Nat) (A : Act') (X : St) : Prop := A.inr = false ∧ Same S1 X ∧ ∃ i v w cs bs, i + k = g.infos.length ∧ GrW 1 S1 X v i (cells64 (List.replicate i (-1))) ∧ GrW 1 S1 X w i cs ∧ Rws S1 X bs cs ((actN g).take i) ∧ (∀ c, blkOf v = some c → blkOf w ≠ some c) ∧ tmpV 1 A.F = mv ∧ tmpV 2 A.F = .ptr gb 0 ∧ tmpV 4 A.F = v ∧ tmpV 5 A.F = w ∧ tmpV 7 A.F = .int .i64 (i : Int)
theorem seen0 {g : PGame} {m : List Int} (G : GoodG g) : Seen g m (fun j => j < 0) (fun j _ => j < 0) (List.replicate g.infos.length (-1)) (actN g) := by
  refine ⟨List.length_replicate .., by unfold actN; rw [List.length_map], fun s hs => ?_, fun j _ hj => by omega, fun s hs h0 => ?_, fun j _ hj => by omega, fun j k _ _ hj => by omega⟩
  · obtain ⟨f1, f2, f3⟩ := G.fst s hs
    have hac := (G.inf _ f1 f2).2.2
    rw [f3] at hac
    have e : (actN g).getD s [] = List.replicate (infoAt g (s : Int)).actions.toNat 0 := by
      unfold actN infoAt
      rw [List.getD_eq_getElem?_getD, List.getElem?_map, List.getD_eq_getElem?_getD, Int.toNat_natCast, List.getElem?_eq_getElem hs]
      rfl
    rw [e, List.length_replicate]
    omega
  · rw [List.getD_eq_getElem?_getD, List.getElem?_replicate, if_pos hs] at h0
    exact absurd h0 (by decide)
def MaiI (S1 : St) (gb : Nat) (mv v w : AV) (cs : List AV) (bs : Nat → Nat) (g : PGame) (m : List Int) (k : Nat) (A : Act') (X : St) : Prop := A.inr = false ∧ Same S1 X ∧ ∃ i I As, i + k = g.nodes.length ∧ GrW 1 S1 X v g.infos.length (cells64 I) ∧ GrW 1 S1 X w g.infos.length cs ∧ Rws S1 X bs cs As ∧ Seen g m (fun j => j < i) (fun j _ => j < i) I As ∧ tmpV 1 A.F = mv ∧ tmpV 2 A.F = .ptr gb 0 ∧ tmpV 4 A.F = v ∧ tmpV 5 A.F = w ∧ tmpV 8 A.F = .int .i64 (i : Int)
theorem ld64 {h : Ev.T AB} {b p sz : Nat} {l : List Int} {o : Bool} (hb : h.get b = some (.cells (cells64 l) o sz)) (hp : p < l.length) : qLdV (.ptr b p) false 1 h = some (.int .i64 (l.getD p 0)) := ldrow hb (by
  unfold cells64
  rw [List.getElem?_map, List.getElem?_eq_getElem hp, List.getD_eq_getElem?_getD, List.getElem?_eq_getElem hp]
  rfl)
theorem natOf_nn {k : IntKind} {x : Int} (h : 0 ≤ x) : natOf (.int k x) = some x.toNat := by
  obtain ⟨n, rfl⟩ : ∃ n : Nat, x = (n : Int) := ⟨x.toNat, by omega⟩
  rw [Int.toNat_natCast]
  exact natOf_cast ..
/-- what stays while a pair of nodes is looked at -/
def PairT (F : Fr) (gb xb yb : Nat) (mv v w : AV) (i : Nat) : Prop := tmpV 1 F = mv ∧ tmpV 2 F = .ptr gb 0 ∧ tmpV 4 F = v ∧ tmpV 5 F = w ∧ tmpV 8 F = .int .i64 (i : Int) ∧ tmpV 9 F = .ptr xb 0 ∧ tmpV 10 F = .ptr yb 0
theorem agg_node {x0 x1 x2 : Int} {a b c : AV} {k : IntKind} (ha : sameV a a = true) (hb : sameV b b = true) (hc : sameV c c = true) : sameV (.agg [.int k x0, .int k x1, .int k x2, a, b, c]) (.agg [.int k x0, .int k x1, .int k x2, a, b, c]) = true := agg6_self (same_int ..) (same_int ..) (same_int ..) ha hb hc
theorem kidP_lt {g : PGame} {m : List Int} {i k : Nat} (h : 0 ≤ kidP g m i k) : (kidP g m i k).toNat < (nodeAt g (toM m i)).next.length := by
  unfold kidP at h ⊢
  rcases placeF_get (c := m.getD ((nodeAt g i).next.getD k 0).toNat 0) (l := (nodeAt g (toM m i)).next) (s := 0) with ⟨h1, _⟩ | ⟨j, h1, h2, _⟩
  · rw [h1] at h; exact absurd h (by decide)
  · rw [h1]
    have := (List.getElem?_eq_some_iff.1 h2).1
    omega
def KidR (S1 : St) (gb xb yb : Nat) (mv v w : AV) (cs : List AV) (bs : Nat → Nat) (g : PGame) (m : List Int) (i : Nat) (kn : Bool) (cx cy : Option AB) (k : Nat) (A : Act') (X : St) : Prop := A.inr = false ∧ Same S1 X ∧ xb < X.nx ∧ yb < X.nx ∧ ∃ kk I As, kk + k = (nodeAt g i).next.length ∧ GrW 1 S1 X v g.infos.length (cells64 I) ∧ GrW 1 S1 X w g.infos.length cs ∧ Rws S1 X bs cs As ∧ Seen g m (fun j => j < i ∨ j = i) (fun j k' => j < i ∨ (j = i ∧ k' < kk)) I As ∧ PairT A.F gb xb yb mv v w i ∧ X.h.get xb = cx ∧ X.h.get yb = cy ∧ tmpV 11 A.F = .bool kn ∧ tmpV 12 A.F = .int .i64 (kk : Int)
def InjI (X0 : St) (v w : AV) (I : List Int) (n k : Nat) (A : Act') (X : St) : Prop := A.inr = false ∧ Same X0 X ∧ ∃ i, i + k = n ∧ (∀ a b, b < a → a < i → I.getD a 0 ≠ I.getD b 0) ∧ tmpV 4 A.F = v ∧ tmpV 5 A.F = w ∧ tmpV 14 A.F = .int .i64 (i : Int)
def InjK (X0 : St) (v w : AV) (I : List Int) (i k : Nat) (A : Act') (X : St) : Prop := A.inr = false ∧ Same X0 X ∧ ∃ l, l + k = i ∧ (∀ b, b < l → I.getD i 0 ≠ I.getD b 0) ∧ tmpV 4 A.F = v ∧ tmpV 5 A.F = w ∧ tmpV 14 A.F = .int .i64 (i : Int) ∧ tmpV 15 A.F = .int .i64 (l : Int)
def XFail (S1 : St) (g : PGame) (m : List Int) (A : Act') (X : St) : Prop := Same S1 X ∧ ¬ Auto g m ∧ tmpV 4 A.F = .nilsl ∧ tmpV 5 A.F = .nilsl ∧ tmpV 6 A.F = .bool false
def XImgP (g : PGame) (m : List Int) (S S' : St) (x y : AV) : Prop := GrW 1 S S' x g.infos.length (cells64 (imgI g m)) ∧ ∃ cs bs, GrW 1 S S' y g.infos.length cs ∧ Rws S S' bs cs (imgA g m)

set_option maxHeartbeats 4000000 in
theorem images_spec {S : St} {nv iv mv : AV} {g : PGame} {m : List Int} (H : Has fns) (hn : IsSlG 6 NodeE S nv g.nodes) (hi : IsSlG 2 InfoE S iv g.infos) (hm : IsSl .i64 S mv m) (G : GoodG g) (M : MapG g m) :
    wpf fns (.fn 72 [] []) [.agg [.int .i64 g.players, nv, iv], mv] S fun r S' => Same S S' ∧ ∃ a b t, r = .tup [a, b, .bool t] ∧ (t = true ↔ Auto g m) ∧ (t = true → XImgP g m S S' a b) := by
  have hml : 0 < m.length := by rw [M.len]; exact G.n1
  have hN := G.n2
  have hNI := G.ni
  refine wpf_fn H.f72 (by simp) ?_
  simp only [↓stU, stD, reduceEqDiff, ↓reduceIte, ↓stV, stW, Nat.reduceAdd]
  refine wsr ?_
  refine wpo_box (by simp only [↓stU, stD, reduceEqDiff, ↓reduceIte, ↓stV, stW, Nat.reduceAdd]; exact cells_agg _) ?_
  intro S1 s1 n1 c1
  simp only [↓stU, stD, reduceEqDiff, ↓reduceIte, ↓stV, stW, Nat.reduceAdd]
  have lg1 : S.nx < S1.nx := by omega
  have hm1 := hm.same s1
  have ia0 := hm1.iaddr hml
  have la0 := hm1.ld hml
  refine wss ?_
  simp only [↓stU, stD, reduceEqDiff, ↓reduceIte, ↓stV, stW, Nat.reduceAdd, nat0, ia0, la0]
  by_cases h0 : m.getD 0 0 = 0
  rotate_left
  · refine wpc_yes (by simp only [↓stU, stD, reduceEqDiff, ↓reduceIte, ↓stV, stW, Nat.reduceAdd, decide_eq_true (show m.getD 0 0 ≠ 0 from h0)]) ?_
    refine wsr ?_
    simp only [↓stU, stD, reduceEqDiff, ↓reduceIte, ↓stV, stW, Nat.reduceAdd]
    refine wpc_ret ?_
    simp only [↓stU, stD, reduceEqDiff, ↓reduceIte, ↓stV, stW, Nat.reduceAdd]
    exact ⟨s1, _, _, false, rfl, ⟨fun h => (by cases h), fun a => absurd a.root h0⟩, fun h => by cases h⟩
  refine wpc_non (by simp only [↓stU, stD, reduceEqDiff, ↓reduceIte, ↓stV, stW, Nat.reduceAdd, decide_eq_false (show ¬ m.getD 0 0 ≠ 0 from fun h => h h0)]) (wpc_skip ?_)
  try simp only [↓stU, stD, reduceEqDiff, ↓reduceIte, ↓stV, stW, Nat.reduceAdd]
  refine wpc_seq (wpc_mono (Q := fun o A' X => o = .normal ∧ GroI S1 S.nx mv g 0 A' X) (wpc_seq (wpc_reg ?_)) ?_)
  · simp only [↓stU, stD, reduceEqDiff, ↓reduceIte, ↓stV, stW, Nat.reduceAdd]
    refine wpc_block (wpc_loop (GroI S1 S.nx mv g) ?_ g.infos.length _ _ ⟨rfl, Same.refl _, 0, .nilsl, .nilsl, [], fun _ => 0, by omega, .inl ⟨rfl, rfl, rfl⟩, .inl ⟨rfl, rfl, rfl⟩, Rws.none, (fun c hc => by cases hc), by simp only [↓stU, stD, reduceEqDiff, ↓reduceIte, ↓stV, stW, Nat.reduceAdd], by simp only [↓stU, stD, reduceEqDiff, ↓reduceIte, ↓stV, stW, Nat.reduceAdd], by simp only [↓stU, stD, reduceEqDiff, ↓reduceIte, ↓stV, stW, Nat.reduceAdd], by simp only [↓stU, stD, reduceEqDiff, ↓reduceIte, ↓stV, stW, Nat.reduceAdd], by simp only [↓stU, stD, reduceEqDiff, ↓reduceIte, ↓stV, stW, Nat.reduceAdd]⟩)
    rintro k ⟨F, inr⟩ X ⟨q0, hX, i, v, w, cs, bs, hik, gv, gw, hR, hvw, p1, p2, p4, p5, p7⟩
    simp only at q0 p1 p2 p4 p5 p7
    subst q0
    have lgX : S.nx < X.nx := Nat.lt_of_lt_of_le lg1 hX.1
    have cX : X.h.get S.nx = some (.cells [.int .i64 g.players, nv, iv] false 0) := by rw [hX.2 _ lg1]; exact c1
    refine wss ?_
    simp only [↓stU, stD, reduceEqDiff, ↓reduceIte, ↓stV, stW, Nat.reduceAdd, p2, p7, evQ_faddr, faddr_ptr, lg3_2 cX, hi.len]
    by_cases hlt : i < g.infos.length
    · refine wpc_yes (by simp only [↓stU, stD, reduceEqDiff, ↓reduceIte, ↓stV, stW, Nat.reduceAdd, decide_eq_true (show (i : Int) < ((g.infos.length : Nat) : Int) by omega)]) (wpc_skip ?_)
      try simp only [↓stU, stD, reduceEqDiff, ↓reduceIte, ↓stV, stW, Nat.reduceAdd]
      obtain ⟨f1, f2, f3⟩ := G.fst i hlt
      have hac := (G.inf _ f1 f2).2.2
      rw [f3] at hac
      obtain ⟨e, b, q, hian, hb, he, heq, _, hlf⟩ := IsSlG.at hi (by decide) (List.getElem?_eq_getElem hlt)
      have hia' : g.infos[i] = infoAt g (i : Int) := by unfold infoAt; rw [List.getD_eq_getElem?_getD, Int.toNat_natCast, List.getElem?_eq_getElem hlt]; rfl
      unfold InfoE at heq
      subst heq
      have hl1 := hlf 1 _ rfl
      rw [hia', hac] at hl1
      rw [← ldSame (s1.trans hX) hb] at hl1
      have hnl : (nodeAt g (firstOf g i)).next.length ≤ 1000 := G.nxt _ f1
      generalize hna : (nodeAt g (firstOf g i)).next.length = na at *
      have hgW : ¬ (blkOf v = some S.nx ∨ blkOf w = some S.nx) := by
        rintro (h | h)
        · have := (gv.blk h).1; omega
        · have := (gw.blk h).1; omega
      have hbW : ¬ (blkOf v = some b ∨ blkOf w = some b) := by
        rintro (h | h)
        · have := (gv.blk h).1; omega
        · have := (gw.blk h).1; omega
      have lbX : b < X.nx := by omega
      have ev28 : ∀ (F : Fr) (id : Nat), evA (.bslice 3 1 1 [.int .i64 0] [(0, .c (.int .i64 (.negSucc 0)))]) F id = some (.sl id 0 1 1 false, .cells [.int .i64 (-1)] false 0) := fun F id => evA_one rfl
      have w1 : IntKind.i64.wrap ((i : Int) + 1) = ((i + 1 : Nat) : Int) := by rw [wrap_i64 (by omega) (by omega)]; omega
      refine wpc_seq (wpc_block (wpc_drd (fun c => blkOf v = some c ∨ blkOf w = some c) ?_))
      have sB : Same X ⟨X.h.set (X.nx + 1) (some (.cells [.int .i64 (-1)] false 0)), X.nx + 15⟩ := ⟨by simp, fun c hc => by simp only; rw [T.get_set, if_neg (by omega)]⟩
      obtain ⟨v', S2, eA, gA, bA, nA, rA⟩ := GrW.push1 (bytes := 8) (t := X.nx + 1) (x := .int .i64 (-1)) (gv.step sB) (hX.trans sB) (by simp only; rw [T.get_set, if_pos rfl]) (by unfold room; omega) (by unfold room; omega)
      simp only at bA nA rA
      simp only [↓stU, stD, reduceEqDiff, ↓reduceIte, ↓stV, stW, Nat.reduceAdd, p4, ev28]
      refine runD_app (r := v') (S1 := S2) rfl ?_ ?_ ?_
      · rw [flush_one (show Nat.testBit 3 1 = true by decide)]
        simp only [↓stU, stD, reduceEqDiff, ↓reduceIte, ↓stV, stW, Nat.reduceAdd]
        exact eA
      · rw [flush_one (show Nat.testBit 3 1 = true by decide)]
        exact ⟨by simp only; omega, fun c hc hw => rA c (by omega) fun e => hw (.inl e)⟩
      rw [flush_one (show Nat.testBit 3 1 = true by decide)]
      have siv := IsSlG.self hi
      simp only [↓stU, stD, reduceEqDiff, ↓reduceIte, ↓stV, stW, Nat.reduceAdd, p2, p5, p7, evQ_faddr, isLoad_faddr, faddr_ptr, lg3_2 cX, lgX, hgW, not_false_eq_true, siv, natOf_cast, hian, hl1, lbX, hbW]
      refine contA_mk (n := na) (by simp only [↓stU, stD, reduceEqDiff, ↓reduceIte, ↓stV, stW, Nat.reduceAdd, natOf_cast]) (by simp only [↓stU, stD, reduceEqDiff, ↓reduceIte, ↓stV, stW, Nat.reduceAdd, natOf_cast]) (by unfold room; omega) (by unfold room; omega) ?_
      simp only [↓stU, stD, reduceEqDiff, ↓reduceIte, ↓stV, stW, Nat.reduceAdd]
      rw [evA_sl (b := X.nx + 10) (n := na) (c := na) (o := false) (by simp only [↓stU, stD, reduceEqDiff, ↓reduceIte, ↓stV, stW, Nat.reduceAdd]), contA_some]
      have hA0 : ((actN g).take i).length = i := by unfold actN; rw [List.length_take, List.length_map]; omega
      have hA1 : (actN g).take (i + 1) = (actN g).take i ++ [List.replicate na 0] := by
        rw [List.take_add_one]
        congr 1
        unfold actN
        rw [List.getElem?_map, List.getElem?_eq_getElem hlt, hia']
        show [List.replicate (infoAt g (i : Int)).actions.toNat 0] = _
        rw [hac, Int.toNat_natCast]
      have hz : repeatL [AV.int .i64 0] na = cells64 (List.replicate na 0) := zeros64 na
      have hm1 : ∀ c, blkOf v = some c → c < X.nx := fun c hc => (gv.blk hc).2.1
      have hm2 : ∀ c, blkOf w = some c → c < X.nx := fun c hc => (gw.blk hc).2.1
      have hflip : ∀ c, blkOf w = some c → blkOf v ≠ some c := fun c h1 h2 => hvw c h2 h1
      generalize hX2 : (⟨(S2.h.set (X.nx + 11) (some (.cells [.sl (X.nx + 10) 0 na na false] false 0))).set (X.nx + 10) (some (.cells (repeatL [.int .i64 0] na) false 0)), S2.nx⟩ : St) = X2
      have k2 : ∀ c, c ≠ X.nx + 10 → c ≠ X.nx + 11 → X2.h.get c = S2.h.get c := fun c h1 h2 => by rw [← hX2]; simp only; rw [T.get_set, if_neg h1, T.get_set, if_neg h2]
      have k10 : X2.h.get (X.nx + 10) = some (.cells (cells64 (List.replicate na 0)) false 0) := by rw [← hX2, hz]; simp only; rw [T.get_set, if_pos rfl]
      have k11 : X2.h.get (X.nx + 11) = some (.cells [rowV (X.nx + 10) (List.replicate na 0)] false 0) := by rw [← hX2]; simp only; rw [T.get_set, if_neg (by omega), T.get_set, if_pos rfl]; unfold rowV; rw [List.length_replicate]
      have n2 : X2.nx = X.nx + 16 := by rw [← hX2]; simp only; omega
      have hold2 : ∀ c, c < X.nx → blkOf v ≠ some c → X2.h.get c = X.h.get c := fun c hc hne => by rw [k2 c (by omega) (by omega), rA c (by omega) hne, sB.2 c hc]
      have sX2 : Same S1 X2 := ⟨by have := hX.1; omega, fun c hc => by rw [hold2 c (by have := hX.1; omega) (fun e => by have := (gv.blk e).1; omega)]; exact hX.2 c hc⟩
      have gw2 : GrW 1 S1 X2 w i cs := gw.move (by omega) fun c hc => hold2 c (hm2 c hc) (hflip c hc)
      obtain ⟨w', S3, eW, gB, bW, nW, rW⟩ := GrW.push1 (bytes := 24) gw2 sX2 k11 (by unfold room; omega) (by unfold room; omega)
      have hold3 : ∀ c, c < X.nx → blkOf v ≠ some c → blkOf w ≠ some c → S3.h.get c = X.h.get c := fun c hc h1 h2 => by rw [rW c (by omega) h2, hold2 c hc h1]
      have sX3 : Same S1 S3 := ⟨by have := sX2.1; omega, fun c hc => by rw [rW c (by have := sX2.1; omega) (fun e => by have := (gw.blk e).1; omega)]; exact sX2.2 c hc⟩
      have gv3 : GrW 1 S1 S3 v' (i + 1) (cells64 (List.replicate i (-1)) ++ [.int .i64 (-1)]) := gA.move (by omega) fun c hc => by
        rw [bA] at hc
        cases hc
        rw [rW _ (by omega) (fun e => by have := hm2 _ e; omega), k2 _ (by omega) (by omega)]
      have e1 : cells64 (List.replicate i (-1)) ++ [.int .i64 (-1)] = cells64 (List.replicate (i + 1) (-1)) := by
        rw [List.replicate_succ']
        unfold cells64
        rw [List.map_append]
        rfl
      rw [e1] at gv3
      have hcl := gw.csl
      have hR3 : Rws S1 S3 (fun j => if j = ((actN g).take i).length then X.nx + 10 else bs j) (cs ++ [rowV (X.nx + 10) (List.replicate na 0)]) ((actN g).take i ++ [List.replicate na 0]) := by
        refine Rws.add (hR.move (by omega) fun j hj => ?_) (by have := hX.1; omega) (by omega) ?_ (fun j hj => ?_) (fun j hj => ?_) ?_
        · obtain ⟨_, b2, b3⟩ := hR.bl j hj
          exact hold3 _ b2 (gv.off b3) (gw.off b3)
        · rw [rW _ (by omega) (fun e => by have := hm2 _ e; omega)]; exact k10
        · have := (hR.bl j hj).2.1; omega
        · rw [List.getElem?_append_left (by omega)]
        · rw [List.getElem?_append_right (by omega), hA0, show i - cs.length = 0 by omega]; rfl
      refine runD_app (r := w') (S1 := S3) rfl ?_ ?_ ?_
      · rw [flush_on (show Nat.testBit 4095 11 = true by decide), flush_on (show Nat.testBit 4095 10 = true by decide), flush_nil, hX2]
        simp only [↓stU, stD, reduceEqDiff, ↓reduceIte, ↓stV, stW, Nat.reduceAdd]
        exact eW
      · rw [flush_on (show Nat.testBit 4095 11 = true by decide), flush_on (show Nat.testBit 4095 10 = true by decide), flush_nil, hX2]
        exact ⟨by omega, fun c hc hw => rW c (by omega) fun e => hw (.inr e)⟩
      rw [flush_on (show Nat.testBit 4095 11 = true by decide), flush_on (show Nat.testBit 4095 10 = true by decide), flush_nil]
      simp only [↓stU, stD, reduceEqDiff, ↓reduceIte, ↓stV, stW, Nat.reduceAdd]
      refine wpc_reg ?_
      simp only [↓stU, stD, reduceEqDiff, ↓reduceIte, ↓stV, stW, Nat.reduceAdd, p7, w1]
      refine ⟨k - 1, by omega, rfl, sX3, i + 1, v', w', _, _, by omega, gv3, gB, by rw [hA1]; exact hR3, fun c h1 h2 => ?_, by simp only [↓stU, stD, reduceEqDiff, ↓reduceIte, ↓stV, stW, Nat.reduceAdd, p1], by simp only [↓stU, stD, reduceEqDiff, ↓reduceIte, ↓stV, stW, Nat.reduceAdd, p2], by simp only [↓stU, stD, reduceEqDiff, ↓reduceIte, ↓stV, stW, Nat.reduceAdd], by simp only [↓stU, stD, reduceEqDiff, ↓reduceIte, ↓stV, stW, Nat.reduceAdd], by simp only [↓stU, stD, reduceEqDiff, ↓reduceIte, ↓stV, stW, Nat.reduceAdd]⟩
      rw [bA] at h1
      rw [bW] at h2
      have h1 := Option.some.inj h1
      have h2 := Option.some.inj h2
      omega
    · refine wpc_non (by simp only [↓stU, stD, reduceEqDiff, ↓reduceIte, ↓stV, stW, Nat.reduceAdd, decide_eq_false (show ¬ (i : Int) < ((g.infos.length : Nat) : Int) by omega)]) (wpc_exit ?_)
      simp only [↓stU, stD, reduceEqDiff, ↓reduceIte, ↓stV, stW, Nat.reduceAdd]
      have hk0 : k = 0 := by omega
      subst hk0
      exact ⟨rfl, hX, i, v, w, cs, bs, hik, gv, gw, hR, hvw, by simp only [↓stU, stD, reduceEqDiff, ↓reduceIte, ↓stV, stW, Nat.reduceAdd, p1], by simp only [↓stU, stD, reduceEqDiff, ↓reduceIte, ↓stV, stW, Nat.reduceAdd, p2], by simp only [↓stU, stD, reduceEqDiff, ↓reduceIte, ↓stV, stW, Nat.reduceAdd, p4], by simp only [↓stU, stD, reduceEqDiff, ↓reduceIte, ↓stV, stW, Nat.reduceAdd, p5], by simp only [↓stU, stD, reduceEqDiff, ↓reduceIte, ↓stV, stW, Nat.reduceAdd, p7]⟩
  rintro o ⟨F, inr⟩ X ⟨rfl, q0, hX, i, v, w, cs, bs, hik, gv, gw, hR, hvw, p1, p2, p4, p5, p7⟩
  simp only at q0 p1 p2 p4 p5
  subst q0
  clear p7
  obtain rfl : i = g.infos.length := by omega
  have hAl : (actN g).length = g.infos.length := by unfold actN; rw [List.length_map]
  rw [List.take_of_length_le (by omega)] at hR
  try simp only [↓stU, stD, reduceEqDiff, ↓reduceIte, ↓stV, stW, Nat.reduceAdd]
  refine wpc_seq (wpc_mono (Q := fun o A' Y => (o = .normal ∧ MaiI S1 S.nx mv v w cs bs g m 0 A' Y) ∨ (o = .ret ∧ XFail S1 g m A' Y)) (wpc_seq (wpc_reg ?_)) ?_)
  · simp only [↓stU, stD, reduceEqDiff, ↓reduceIte, ↓stV, stW, Nat.reduceAdd]
    refine wpc_block (wpc_loop (MaiI S1 S.nx mv v w cs bs g m) ?_ g.nodes.length _ _ ⟨rfl, hX, 0, _, _, by omega, gv, gw, hR, seen0 G, by simp only [↓stU, stD, reduceEqDiff, ↓reduceIte, ↓stV, stW, Nat.reduceAdd, p1], by simp only [↓stU, stD, reduceEqDiff, ↓reduceIte, ↓stV, stW, Nat.reduceAdd, p2], by simp only [↓stU, stD, reduceEqDiff, ↓reduceIte, ↓stV, stW, Nat.reduceAdd, p4], by simp only [↓stU, stD, reduceEqDiff, ↓reduceIte, ↓stV, stW, Nat.reduceAdd, p5], by simp only [↓stU, stD, reduceEqDiff, ↓reduceIte, ↓stV, stW, Nat.reduceAdd]⟩)
    clear p1 p2 p4 p5 gv gw hR hX X
    rintro k ⟨F, inr⟩ X ⟨q0, hX, i, I, As, hik, gv, gw, hR, hS, p1, p2, p4, p5, p8⟩
    simp only at q0 p1 p2 p4 p5 p8
    subst q0
    refine wss ?_
    simp only [↓stU, stD, reduceEqDiff, ↓reduceIte, ↓stV, stW, Nat.reduceAdd, p1, p8, hm.len, M.len, Int.ofNat_eq_natCast]
    by_cases hlt : i < g.nodes.length
    rotate_left
    · refine wpc_non (by simp only [↓stU, stD, reduceEqDiff, ↓reduceIte, ↓stV, stW, Nat.reduceAdd, decide_eq_false (show ¬ (i : Int) < ((g.nodes.length : Nat) : Int) by omega)]) (wpc_exit ?_)
      simp only [↓stU, stD, reduceEqDiff, ↓reduceIte, ↓stV, stW, Nat.reduceAdd]
      have hk0 : k = 0 := by omega
      subst hk0
      exact .inl ⟨rfl, hX, i, I, As, hik, gv, gw, hR, hS, by simp only [↓stU, stD, reduceEqDiff, ↓reduceIte, ↓stV, stW, Nat.reduceAdd, p1], by simp only [↓stU, stD, reduceEqDiff, ↓reduceIte, ↓stV, stW, Nat.reduceAdd, p2], by simp only [↓stU, stD, reduceEqDiff, ↓reduceIte, ↓stV, stW, Nat.reduceAdd, p4], by simp only [↓stU, stD, reduceEqDiff, ↓reduceIte, ↓stV, stW, Nat.reduceAdd, p5], by simp only [↓stU, stD, reduceEqDiff, ↓reduceIte, ↓stV, stW, Nat.reduceAdd, p8]⟩
    refine wpc_yes (by simp only [↓stU, stD, reduceEqDiff, ↓reduceIte, ↓stV, stW, Nat.reduceAdd, decide_eq_true (show (i : Int) < ((g.nodes.length : Nat) : Int) by omega)]) (wpc_skip ?_)
    try simp only [↓stU, stD, reduceEqDiff, ↓reduceIte, ↓stV, stW, Nat.reduceAdd]
    have lgX : S.nx < X.nx := Nat.lt_of_lt_of_le lg1 hX.1
    have cX : X.h.get S.nx = some (.cells [.int .i64 g.players, nv, iv] false 0) := by rw [hX.2 _ lg1]; exact c1
    have sX := s1.trans hX
    have hmX := hm.same sX
    have ia := hmX.iaddr (show i < m.length by rw [M.len]; exact hlt)
    have la := hmX.ld (show i < m.length by rw [M.len]; exact hlt)
    obtain ⟨hto, htoN⟩ := M.at hlt
    rw [hto] at la
    obtain ⟨_, bx, qx, hiax, hbx, _, ⟨xa, xw, xp, rfl, hxa, hxw, hxp⟩, hldx, _⟩ := IsSlG.at hn (by decide) (nodeAt_some hlt)
    obtain ⟨_, by', qy, hiay, hby, _, ⟨ya, yw, yp, rfl, hya, hyw, hyp⟩, hldy, _⟩ := IsSlG.at hn (by decide) (nodeAt_some htoN)
    rw [← ldSame sX hbx] at hldx
    rw [← ldSame sX hby] at hldy
    have snv := IsSlG.self hn
    have sx := agg_node (k := .i64) (x0 := (nodeAt g i).kind) (x1 := (nodeAt g i).player) (x2 := (nodeAt g i).info) (IsSl.self hxa) (IsSl.self hxw) (IsSl.self hxp)
    have sy := agg_node (k := .i64) (x0 := (nodeAt g (toM m i)).kind) (x1 := (nodeAt g (toM m i)).player) (x2 := (nodeAt g (toM m i)).info) (IsSl.self hya) (IsSl.self hyw) (IsSl.self hyp)
    have lbx : bx < X.nx := Nat.lt_of_lt_of_le hbx sX.1
    have lby : by' < X.nx := Nat.lt_of_lt_of_le hby sX.1
    have lel : ∀ {i : Nat}, i < m.length → ∃ b p, elemP mv i = .ptr b p ∧ b < X.nx := fun {i} h => IsSl.place hmX h
    obtain ⟨bm, pm, hem, lbm⟩ := lel (show i < m.length by rw [M.len]; exact hlt)
    rw [hem] at ia la
    have w1 : IntKind.i64.wrap ((i : Int) + 1) = ((i + 1 : Nat) : Int) := by rw [wrap_i64 (by omega) (by omega)]; omega
    refine wpc_seq (wpc_block (wpc_seq (wpc_drd (fun _ => False) ?_)))
    simp only [↓stU, stD, reduceEqDiff, ↓reduceIte, ↓stV, stW, Nat.reduceAdd, p1, p2, p8, evQ_faddr, isLoad_faddr, faddr_ptr, lg3_1 cX, lgX, not_false_eq_true, snv, natOf_cast, hiax, hldx, sx, lbx, ia, la, lbm, hiay, hldy, sy, lby, evA_alloc]
    refine two_st (n := 6) rfl rfl rfl (by simp only [↓stU, stD, reduceEqDiff, ↓reduceIte, ↓stV, stW, Nat.reduceAdd]) (by simp only [↓stU, stD, reduceEqDiff, ↓reduceIte, ↓stV, stW, Nat.reduceAdd]) (by simp only [↓stU, stD, reduceEqDiff, ↓reduceIte, ↓stV, stW, Nat.reduceAdd]; exact cells_agg _) (by simp only [↓stU, stD, reduceEqDiff, ↓reduceIte, ↓stV, stW, Nat.reduceAdd]; exact cells_agg _) rfl rfl rfl (by omega) (by omega) (by omega) ?_
    intro X1 hX1n hgx hgy hX1
    rw [flush_nil]
    have hX1n : X1.nx = X.nx + 17 := hX1n
    have sX1 : Same X X1 := ⟨by omega, fun c hc => hX1 c (by omega) (by omega)⟩
    have lxX : X.nx ≤ X.nx + 13 := by omega
    have lyX : X.nx ≤ X.nx + 14 := by omega
    have lx1 : X.nx + 13 < X1.nx := by omega
    have ly1 : X.nx + 14 < X1.nx := by omega
    show wpc fns _ _ X1 _
    refine wpc_seq (wpc_seq (wpc_mono (Q := fun o A' Y => o = .normal ∧ A'.inr = false ∧ Same X1 Y ∧ PairT A'.F S.nx (X.nx + 13) (X.nx + 14) mv v w i ∧ ∃ t, tmpV 87 A'.F = .bool t ∧ (t = true ↔ ¬ Like g m i)) (wpc_reg ?_) ?_))
    · have sX1' := sX.trans sX1
      have hxa1 := hxa.same sX1'
      have hya1 := hya.same sX1'
      have hxp1 := hxp.same sX1'
      have hyp1 := hyp.same sX1'
      by_cases q1 : (nodeAt g i).kind = (nodeAt g (toM m i)).kind
      rotate_left
      · simp only [↓stU, stD, reduceEqDiff, ↓reduceIte, ↓stV, stW, Nat.reduceAdd, evQ_faddr, faddr_ptr, ld6_0 hgx, ld6_0 hgy, decide_eq_true (show (nodeAt g i).kind ≠ (nodeAt g (toM m i)).kind from q1), PairT, p1, p2, p4, p5, p8]
        exact ⟨Same.refl _, true, rfl, fun _ h => q1 h.1, fun _ => rfl⟩
      by_cases q2 : (nodeAt g i).next.length = (nodeAt g (toM m i)).next.length
      rotate_left
      · simp only [↓stU, stD, reduceEqDiff, ↓reduceIte, ↓stV, stW, Nat.reduceAdd, evQ_faddr, faddr_ptr, ld6_0 hgx, ld6_0 hgy, ld6_3 hgx, ld6_3 hgy, hxa1.len, hya1.len, Int.ofNat_eq_natCast, decide_eq_false (show ¬ (nodeAt g i).kind ≠ (nodeAt g (toM m i)).kind from fun h => h q1), decide_eq_true (show (((nodeAt g i).next.length : Nat) : Int) ≠ (((nodeAt g (toM m i)).next.length : Nat) : Int) by omega), PairT, p1, p2, p4, p5, p8]
        exact ⟨Same.refl _, true, rfl, fun _ h => q2 h.2.1, fun _ => rfl⟩
      simp only [↓stU, stD, reduceEqDiff, ↓reduceIte, ↓stV, stW, Nat.reduceAdd, evQ_faddr, faddr_ptr, ld6_0 hgx, ld6_0 hgy, ld6_3 hgx, ld6_3 hgy, ld6_5 hgx, ld6_5 hgy, hxa1.len, hya1.len, Int.ofNat_eq_natCast, decide_eq_false (show ¬ (nodeAt g i).kind ≠ (nodeAt g (toM m i)).kind from fun h => h q1), decide_eq_false (show ¬ (((nodeAt g i).next.length : Nat) : Int) ≠ (((nodeAt g (toM m i)).next.length : Nat) : Int) by omega), PairT, p1, p2, p4, p5, p8]
      refine wpo_call ?_
      simp only [↓stU, stD, reduceEqDiff, ↓reduceIte, ↓stV, stW, Nat.reduceAdd]
      refine wpf_mono (alikeI_spec H hxp1 hyp1 (by have := G.pay i hlt; omega)) ?_
      rintro _ Y ⟨rfl, hY⟩
      by_cases q3 : (nodeAt g i).pay = (nodeAt g (toM m i)).pay
      rotate_left
      · simp only [↓stU, stD, reduceEqDiff, ↓reduceIte, ↓stV, stW, Nat.reduceAdd, un_not, decide_eq_false q3, Bool.not_false, p1, p2, p4, p5, p8]
        exact ⟨hY, true, rfl, fun _ h => q3 h.2.2.1, fun _ => rfl⟩
      have hgxY : Y.h.get (X.nx + 13) = _ := (hY.2 _ lx1).trans hgx
      have hgyY : Y.h.get (X.nx + 14) = _ := (hY.2 _ ly1).trans hgy
      simp only [↓stU, stD, reduceEqDiff, ↓reduceIte, ↓stV, stW, Nat.reduceAdd, un_not, decide_eq_true q3, Bool.not_true, evQ_faddr, faddr_ptr, ld6_1 hgxY, ld6_1 hgyY, p1, p2, p4, p5, p8]
      refine ⟨hY, _, rfl, ?_⟩
      rw [decide_eq_true_iff]
      exact ⟨fun h hl => h hl.2.2.2, fun h he => h ⟨q1, q2, q3, he⟩⟩
    clear p1 p2 p4 p5 p8
    rintro o ⟨F, inr⟩ Y ⟨rfl, q0, hY, hP, t, p87, hLt⟩
    simp only at q0 hP p87
    subst q0
    obtain ⟨p1, p2, p4, p5, p8, p9, p10⟩ := hP
    have sXY := sX1.trans hY
    have sSY := hX.trans sXY
    try simp only [↓stU, stD, reduceEqDiff, ↓reduceIte, ↓stV, stW, Nat.reduceAdd]
    cases t with
    | true =>
      refine wpc_yes (by simp only [↓stU, stD, reduceEqDiff, ↓reduceIte, ↓stV, stW, Nat.reduceAdd, p87]) ?_
      refine wsr ?_
      simp only [↓stU, stD, reduceEqDiff, ↓reduceIte, ↓stV, stW, Nat.reduceAdd]
      refine wpc_ret ?_
      simp only [↓stU, stD, reduceEqDiff, ↓reduceIte, ↓stV, stW, Nat.reduceAdd]
      refine .inr ⟨sSY, no_like hlt (hLt.1 rfl), ?_⟩
      simp only [↓stU, stD, reduceEqDiff, ↓reduceIte, ↓stV, stW, Nat.reduceAdd]
    | false =>
    have hL : Like g m i := Classical.byContradiction fun h => by have := hLt.2 h; cases this
    refine wpc_non (by simp only [↓stU, stD, reduceEqDiff, ↓reduceIte, ↓stV, stW, Nat.reduceAdd, p87]) (wpc_skip ?_)
    try simp only [↓stU, stD, reduceEqDiff, ↓reduceIte, ↓stV, stW, Nat.reduceAdd]
    clear p87 hLt
    have gvY := gv.step sXY
    have gwY := gw.step sXY
    have hRY := hR.same sXY
    have hgxY := (hY.2 _ lx1).trans hgx
    have hgyY := (hY.2 _ ly1).trans hgy
    have lxY : X.nx + 13 < Y.nx := Nat.lt_of_lt_of_le lx1 hY.1
    have lyY : X.nx + 14 < Y.nx := Nat.lt_of_lt_of_le ly1 hY.1
    clear hgx hgy hX1 hX1n
    refine wsr ?_
    simp only [↓stU, stD, reduceEqDiff, ↓reduceIte, ↓stV, stW, Nat.reduceAdd]
    refine wpc_seq (wpc_mono (Q := fun o A' Z => (o = .normal ∧ A'.inr = false ∧ Y.nx ≤ Z.nx ∧ Same S1 Z ∧ (∃ I', GrW 1 S1 Z v g.infos.length (cells64 I') ∧ GrW 1 S1 Z w g.infos.length cs ∧ Rws S1 Z bs cs As ∧ Seen g m (fun j => j < i ∨ j = i) (fun j _ => j < i) I' As) ∧ PairT A'.F S.nx (X.nx + 13) (X.nx + 14) mv v w i ∧ Z.h.get (X.nx + 13) = Y.h.get (X.nx + 13) ∧ Z.h.get (X.nx + 14) = Y.h.get (X.nx + 14) ∧ ∃ kn, tmpV 11 A'.F = .bool kn ∧ ((nodeAt g i).kind = 2 → (kn = true ↔ ∃ j, j < i ∧ (nodeAt g j).kind = 2 ∧ (nodeAt g j).info = (nodeAt g i).info)) ∧ ((nodeAt g i).kind ≠ 2 → kn = false)) ∨ (o = .ret ∧ XFail S1 g m A' Z)) (wpc_seq (wpc_reg ?_)) ?_)
    · simp only [↓stU, stD, reduceEqDiff, ↓reduceIte, ↓stV, stW, Nat.reduceAdd, p9, evQ_faddr, faddr_ptr, ld6_0 hgxY]
      by_cases hk : (nodeAt g i).kind = 2
      rotate_left
      · refine wpc_non (by simp only [↓stU, stD, reduceEqDiff, ↓reduceIte, ↓stV, stW, Nat.reduceAdd, decide_eq_false hk]) (wpc_skip ?_)
        refine .inl ⟨rfl, rfl, Nat.le_refl _, sSY, ⟨I, gvY, gwY, hRY, hS.node hL hk⟩, ?_, rfl, rfl, false, by simp only [↓stU, stD, reduceEqDiff, ↓reduceIte, ↓stV, stW, Nat.reduceAdd], fun h => absurd h hk, fun _ => rfl⟩
        simp only [↓stU, stD, reduceEqDiff, ↓reduceIte, ↓stV, stW, Nat.reduceAdd, PairT, p1, p2, p4, p5, p8, p9, p10]
      refine wpc_yes (by simp only [↓stU, stD, reduceEqDiff, ↓reduceIte, ↓stV, stW, Nat.reduceAdd, decide_eq_true hk]) ?_
      obtain ⟨a1, a2, a3⟩ := G.inf i hlt hk
      have hs : (nodeAt g i).info.toNat < g.infos.length := by omega
      have hsI : (nodeAt g i).info.toNat < I.length := by rw [hS.li]; exact hs
      have hni := natOf_nn (k := .i64) a1
      rcases gvY with ⟨_, h0', _⟩ | ⟨vb, hv, hvb0, hvb1, hvb2, hvb3⟩
      · rw [h0'] at hs; exact absurd hs (Nat.not_lt_zero _)
      have hia := row_ia (b := vb) (o := true) hs
      have hld := ld64 hvb2 hsI
      refine wsr ?_
      simp only [↓stU, stD, reduceEqDiff, ↓reduceIte, ↓stV, stW, Nat.reduceAdd, p4, p9, evQ_faddr, faddr_ptr, ld6_2 hgxY, hni, hv, hia, hld]
      have hknow : 0 ≤ I.getD (nodeAt g i).info.toNat 0 ↔ ∃ j, j < i ∧ (nodeAt g j).kind = 2 ∧ (nodeAt g j).info = (nodeAt g i).info := by
        constructor
        · intro h
          obtain ⟨j, b1, b2, b3, b4⟩ := hS.iw _ hs h
          exact ⟨j, b2, b3, by omega⟩
        · rintro ⟨j, b2, b3, b4⟩
          have := hS.iv j (by omega) b2 b3
          rw [← b4, this]
          exact (like_info G M (by omega) (hS.lk j (by omega) b2) b3).1
      refine wpc_seq (wpc_mono (Q := fun o A' Z => (o = .normal ∧ A'.inr = false ∧ Z = ⟨Y.h, Y.nx + 11⟩ ∧ PairT A'.F S.nx (X.nx + 13) (X.nx + 14) mv v w i ∧ tmpV 11 A'.F = .bool (decide (0 ≤ I.getD (nodeAt g i).info.toNat 0)) ∧ (0 ≤ I.getD (nodeAt g i).info.toNat 0 → I.getD (nodeAt g i).info.toNat 0 = (nodeAt g (toM m i)).info)) ∨ (o = .ret ∧ XFail S1 g m A' Z)) (wpc_seq (wpc_drq ?_)) ?_)
      · by_cases hkn : 0 ≤ I.getD (nodeAt g i).info.toNat 0
        · simp only [↓stU, stD, reduceEqDiff, ↓reduceIte, ↓stV, stW, Nat.reduceAdd, p4, p9, p10, evQ_faddr, isLoad_faddr, faddr_ptr, ld6_2 hgxY, ld6_2 hgyY, hni, hv, hia, hld, decide_eq_true (show I.getD (nodeAt g i).info.toNat 0 ≥ 0 from hkn)]
          by_cases he : I.getD (nodeAt g i).info.toNat 0 = (nodeAt g (toM m i)).info
          · refine wpc_non (by simp only [↓stU, stD, reduceEqDiff, ↓reduceIte, ↓stV, stW, Nat.reduceAdd, decide_eq_false (show ¬ I.getD (nodeAt g i).info.toNat 0 ≠ (nodeAt g (toM m i)).info from fun h => h he)]) (wpc_skip ?_)
            refine .inl ⟨rfl, rfl, rfl, ?_, ?_, fun _ => he⟩
            · simp only [↓stU, stD, reduceEqDiff, ↓reduceIte, ↓stV, stW, Nat.reduceAdd, PairT, p1, p2, p4, p5, p8, p9, p10, hv]
            · simp only [↓stU, stD, reduceEqDiff, ↓reduceIte, ↓stV, stW, Nat.reduceAdd, decide_eq_true hkn]
          · refine wpc_yes (by simp only [↓stU, stD, reduceEqDiff, ↓reduceIte, ↓stV, stW, Nat.reduceAdd, decide_eq_true (show I.getD (nodeAt g i).info.toNat 0 ≠ (nodeAt g (toM m i)).info from he)]) ?_
            refine wsr ?_
            simp only [↓stU, stD, reduceEqDiff, ↓reduceIte, ↓stV, stW, Nat.reduceAdd]
            refine wpc_ret ?_
            refine .inr ⟨rfl, sSY.trans (Same.nx _ _), hS.no_info G hlt hk hkn he, ?_⟩
            simp only [↓stU, stD, reduceEqDiff, ↓reduceIte, ↓stV, stW, Nat.reduceAdd]
        · simp only [↓stU, stD, reduceEqDiff, ↓reduceIte, ↓stV, stW, Nat.reduceAdd, decide_eq_false (show ¬ I.getD (nodeAt g i).info.toNat 0 ≥ 0 from hkn)]
          refine wpc_non (by simp only [↓stU, stD, reduceEqDiff, ↓reduceIte, ↓stV, stW, Nat.reduceAdd]) (wpc_skip ?_)
          refine .inl ⟨rfl, rfl, rfl, ?_, ?_, fun h => absurd h hkn⟩
          · simp only [↓stU, stD, reduceEqDiff, ↓reduceIte, ↓stV, stW, Nat.reduceAdd, PairT, p1, p2, p4, p5, p8, p9, p10, hv]
          · simp only [↓stU, stD, reduceEqDiff, ↓reduceIte, ↓stV, stW, Nat.reduceAdd, decide_eq_false hkn]
      clear p1 p2 p4 p5 p8 p9 p10
      rintro o ⟨F, inr⟩ Z (⟨rfl, q0, rfl, hP, p11, hke⟩ | ⟨rfl, hf⟩)
      rotate_left
      · simp only [↓stU, stD, reduceEqDiff, ↓reduceIte, ↓stV, stW, Nat.reduceAdd]
        exact .inr hf
      simp only at q0 hP p11
      subst q0
      obtain ⟨p1, p2, p4, p5, p8, p9, p10⟩ := hP
      try simp only [↓stU, stD, reduceEqDiff, ↓reduceIte, ↓stV, stW, Nat.reduceAdd]
      refine wpc_reg ?_
      simp only [↓stU, stD, reduceEqDiff, ↓reduceIte, ↓stV, stW, Nat.reduceAdd, p4, p9, p10, evQ_faddr, faddr_ptr, ld6_2 hgxY, ld6_2 hgyY, hni, hv, hia]
      refine wpo_x (fun call => by simp only [↓stU, stD, reduceEqDiff, ↓reduceIte, ↓stV, stW, Nat.reduceAdd, evX_st, cells_int]; exact st64 (S := ⟨Y.h, Y.nx + 11⟩) hvb2 hsI) ?_
      simp only [↓stU, stD, reduceEqDiff, ↓reduceIte, ↓stV, stW, Nat.reduceAdd]
      have hvw' : blkOf w ≠ some vb := hvw vb (by rw [hv]; rfl)
      have hvbX : vb < X.nx := by
        rcases gv with ⟨h, _⟩ | ⟨vb', h, _, h2, _⟩
        · rw [h] at hv; cases hv
        · rw [h] at hv; cases hv; exact h2
      refine .inl ⟨by omega, ⟨by have := sSY.1; simp only; omega, fun c hc => ?_⟩, ⟨_, .inr ⟨vb, rfl, hvb0, Nat.lt_of_lt_of_le hvb1 (Nat.le_add_right _ _), by simp only; rw [T.get_set, if_pos rfl], by unfold cells64 at hvb3 ⊢; rw [List.length_map] at hvb3 ⊢; rw [List.length_set]; exact hvb3⟩, gwY.move (Nat.le_add_right _ _) (fun c hc => ?_), hRY.move (Nat.le_add_right _ _) (fun j hj => ?_), hS.nodeM G M hlt hL hk hke⟩, ?_, ?_, ?_, decide (0 ≤ I.getD (nodeAt g i).info.toNat 0), by simp only [↓stU, stD, reduceEqDiff, ↓reduceIte, ↓stV, stW, Nat.reduceAdd, p11], fun _ => ?_, fun h => absurd hk h⟩
      · simp only
        rw [T.get_set, if_neg (by omega)]
        exact sSY.2 c hc
      · simp only
        rw [T.get_set, if_neg (fun e => hvw' (by rw [hc, e]))]
      · simp only
        rw [T.get_set, if_neg (ob_ne (hRY.bl j hj).2.2 hvb2)]
      · simp only [↓stU, stD, reduceEqDiff, ↓reduceIte, ↓stV, stW, Nat.reduceAdd, PairT, p1, p2, p4, p5, p8, p9, p10, hv]
      · try simp only
        rw [T.get_set, if_neg (by omega)]
      · try simp only
        rw [T.get_set, if_neg (by omega)]
      · rw [decide_eq_true_iff]; exact hknow
    clear p1 p2 p4 p5 p8 p9 p10
    rintro o ⟨F, inr⟩ Z (⟨rfl, q0, hYZ, sSZ, ⟨I', gvZ, gwZ, hRZ, hSZ⟩, hP, ex, ey, kn, p11, hkn, hkf⟩ | ⟨rfl, hf⟩)
    rotate_left
    · simp only [↓stU, stD, reduceEqDiff, ↓reduceIte, ↓stV, stW, Nat.reduceAdd]
      exact .inr hf
    simp only at q0 hP p11
    subst q0
    have hbs : ∀ s, s < g.infos.length → bs s < X.nx := fun s hs => (hR.bl s (by rw [hS.la]; exact hs)).2.1
    have hcr : ∀ c ∈ (nodeAt g i).next, 0 ≤ c ∧ c < g.nodes.length := fun c hc => by
      obtain ⟨T, _, hTl, hW⟩ := G.walk
      have := hW.cf i (by omega) c (by rw [Nat.zero_add, nextOf_at]; exact hc)
      omega
    rw [hgxY] at ex
    rw [hgyY] at ey
    clear gvY gwY hRY hgxY hgyY gv gw hR hS hY sXY sSY ia la
    obtain ⟨p1, p2, p4, p5, p8, p9, p10⟩ := hP
    try simp only [↓stU, stD, reduceEqDiff, ↓reduceIte, ↓stV, stW, Nat.reduceAdd]
    refine wsr ?_
    simp only [↓stU, stD, reduceEqDiff, ↓reduceIte, ↓stV, stW, Nat.reduceAdd]
    refine wpc_mono (Q := fun o A' W => (o = .normal ∧ KidR S1 S.nx (X.nx + 13) (X.nx + 14) mv v w cs bs g m i kn (Z.h.get (X.nx + 13)) (Z.h.get (X.nx + 14)) 0 A' W) ∨ (o = .ret ∧ XFail S1 g m A' W)) (wpc_block (wpc_loop (KidR S1 S.nx (X.nx + 13) (X.nx + 14) mv v w cs bs g m i kn (Z.h.get (X.nx + 13)) (Z.h.get (X.nx + 14))) ?_ (nodeAt g i).next.length _ _ ⟨rfl, sSZ, by omega, by omega, 0, I', As, by omega, gvZ, gwZ, hRZ, hSZ.congr (fun _ _ => Iff.rfl) (fun j k' _ _ h => by omega), (by simp only [↓stU, stD, reduceEqDiff, ↓reduceIte, ↓stV, stW, Nat.reduceAdd, PairT, p1, p2, p4, p5, p8, p9, p10]), rfl, rfl, (by simp only [↓stU, stD, reduceEqDiff, ↓reduceIte, ↓stV, stW, Nat.reduceAdd, p11]), (by simp only [↓stU, stD, reduceEqDiff, ↓reduceIte, ↓stV, stW, Nat.reduceAdd])⟩)) ?_
    · clear p1 p2 p4 p5 p8 p9 p10 p11 gvZ gwZ hRZ hSZ sSZ
      rintro k ⟨F, inr⟩ W ⟨q0, hW, lxW, lyW, kk, I, As, hkk, gv, gw, hR, hS, hP, exW, eyW, p11, p12⟩
      simp only at q0 hP p11 p12
      subst q0
      rw [ex] at exW
      rw [ey] at eyW
      obtain ⟨p1, p2, p4, p5, p8, p9, p10⟩ := hP
      have sW := s1.trans hW
      have hxaW := hxa.same sW
      refine wss ?_
      simp only [↓stU, stD, reduceEqDiff, ↓reduceIte, ↓stV, stW, Nat.reduceAdd, p9, p12, evQ_faddr, faddr_ptr, ld6_3 exW, hxaW.len, Int.ofNat_eq_natCast]
      by_cases hkl : kk < (nodeAt g i).next.length
      rotate_left
      · refine wpc_non (by simp only [↓stU, stD, reduceEqDiff, ↓reduceIte, ↓stV, stW, Nat.reduceAdd, decide_eq_false (show ¬ (kk : Int) < (((nodeAt g i).next.length : Nat) : Int) by omega)]) (wpc_exit ?_)
        simp only [↓stU, stD, reduceEqDiff, ↓reduceIte, ↓stV, stW, Nat.reduceAdd]
        have hk0 : k = 0 := by omega
        subst hk0
        exact .inl ⟨rfl, hW, lxW, lyW, kk, I, As, hkk, gv, gw, hR, hS, (by simp only [↓stU, stD, reduceEqDiff, ↓reduceIte, ↓stV, stW, Nat.reduceAdd, PairT, p1, p2, p4, p5, p8, p9, p10]), by rw [exW, ex], by rw [eyW, ey], (by simp only [↓stU, stD, reduceEqDiff, ↓reduceIte, ↓stV, stW, Nat.reduceAdd, p11]), (by simp only [↓stU, stD, reduceEqDiff, ↓reduceIte, ↓stV, stW, Nat.reduceAdd, p12])⟩
      refine wpc_yes (by simp only [↓stU, stD, reduceEqDiff, ↓reduceIte, ↓stV, stW, Nat.reduceAdd, decide_eq_true (show (kk : Int) < (((nodeAt g i).next.length : Nat) : Int) by omega)]) (wpc_skip ?_)
      try simp only [↓stU, stD, reduceEqDiff, ↓reduceIte, ↓stV, stW, Nat.reduceAdd]
      have hmW := hm.same sW
      have hcm : (nodeAt g i).next.getD kk 0 ∈ (nodeAt g i).next := by rw [List.getD_eq_getElem?_getD, List.getElem?_eq_getElem hkl]; exact List.getElem_mem _
      obtain ⟨hc0, hcN⟩ := hcr _ hcm
      have hiac := hxaW.iaddr hkl
      have hlac := hxaW.ld hkl
      obtain ⟨b1, o1, hp1, lb1⟩ := IsSl.place hxaW hkl
      rw [hp1] at hiac hlac
      have hnc := natOf_nn (k := .i64) hc0
      have hcl : ((nodeAt g i).next.getD kk 0).toNat < m.length := by rw [M.len]; omega
      have hiam := hmW.iaddr hcl
      have hlam := hmW.ld hcl
      obtain ⟨b2, o2, hp2, lb2⟩ := IsSl.place hmW hcl
      rw [hp2] at hiam hlam
      have hyaW := hya.same sW
      have hywW := hyw.same sW
      have hypW := hyp.same sW
      have sxa := IsSl.self hxa
      have smv := IsSl.self hm
      have w2 : IntKind.i64.wrap ((kk : Int) + 1) = ((kk + 1 : Nat) : Int) := by have := G.nxt i hlt; rw [wrap_i64 (by omega) (by omega)]; omega
      have hzz : placeF (nodeAt g (toM m i)).next 0 (m.getD ((nodeAt g i).next.getD kk 0).toNat 0) = kidP g m i kk := rfl
      refine wpc_seq (wpc_block (wpc_seq (wpc_drd1 (fun _ => False) ?_)))
      intro W1 w1'
      simp only [↓stU, stD, reduceEqDiff, ↓reduceIte, ↓stV, stW, Nat.reduceAdd, p1, p9, p10, p12, evQ_faddr, isLoad_faddr, faddr_ptr, ldN eyW, ld6_3 exW, lxW, lyW, not_false_eq_true, sy, sxa, natOf_cast, hiac, hlac, lb1, hnc, hiam, hlam, lb2]
      refine runD_call0 rfl ?_
      simp only [↓stU, stD, reduceEqDiff, ↓reduceIte, ↓stV, stW, Nat.reduceAdd]
      refine wpf_mono (place_spec H ⟨ya, yw, yp, rfl, hyaW.same w1', hywW.same w1', hypW.same w1'⟩ (by have := G.nxt _ htoN; omega)) ?_
      rintro _ W2 ⟨rfl, hW2⟩
      refine ⟨hW2, ?_⟩
      rw [hzz]
      have sWW := w1'.trans hW2
      have sS2 := hW.trans sWW
      have sW2 := s1.trans sS2
      have exV := (sWW.2 _ lxW).trans exW
      have eyV := (sWW.2 _ lyW).trans eyW
      have gvV := gv.step sWW
      have gwV := gw.step sWW
      have hRV := hR.same sWW
      have lxV : X.nx + 13 < W2.nx := Nat.lt_of_lt_of_le lxW sWW.1
      have lyV : X.nx + 14 < W2.nx := Nat.lt_of_lt_of_le lyW sWW.1
      have hxwV := hxw.same sW2
      have hywV := hyw.same sW2
      clear hzz gv gw hR exW eyW lxW lyW hiac hlac hiam hlam hnc
      generalize hzd : kidP g m i kk = z at *
      refine wpc_seq (wpc_mono (Q := fun o A' V => (o = .normal ∧ A'.inr = false ∧ V = ⟨W2.h, W2.nx + 35⟩ ∧ PairT A'.F S.nx (X.nx + 13) (X.nx + 14) mv v w i ∧ tmpV 11 A'.F = .bool kn ∧ tmpV 12 A'.F = .int .i64 (kk : Int) ∧ tmpV 13 A'.F = .int .i64 z ∧ 0 ≤ z ∧ Weigh g m i kk ∧ ((nodeAt g i).kind = 2 → kn = true → (As.getD (nodeAt g i).info.toNat []).getD kk 0 = z)) ∨ (o = .ret ∧ XFail S1 g m A' V)) (wpc_seq (wpc_drq ?_)) ?_)
      · by_cases c1 : z < 0
        · simp only [↓stU, stD, reduceEqDiff, ↓reduceIte, ↓stV, stW, Nat.reduceAdd, decide_eq_true c1]
          refine wpc_yes (by simp only [↓stU, stD, reduceEqDiff, ↓reduceIte, ↓stV, stW, Nat.reduceAdd]) ?_
          refine wsr ?_
          simp only [↓stU, stD, reduceEqDiff, ↓reduceIte, ↓stV, stW, Nat.reduceAdd]
          refine wpc_ret ?_
          refine .inr ⟨rfl, sS2.trans (Same.nx _ _), no_kid hlt hkl (by rw [hzd]; omega), ?_⟩
          simp only [↓stU, stD, reduceEqDiff, ↓reduceIte, ↓stV, stW, Nat.reduceAdd]
        have hz0 : 0 ≤ z := Int.not_lt.1 c1
        have hnz := natOf_nn (k := .i64) hz0
        have hzl : z.toNat < (nodeAt g (toM m i)).next.length := by rw [← hzd]; exact kidP_lt (by rw [hzd]; exact hz0)
        by_cases k1 : (nodeAt g i).kind = 1
        · have k2 : (nodeAt g (toM m i)).kind = 1 := by rw [← hL.1]; exact k1
          have l1 : kk < (nodeAt g i).weights.length := by rw [G.wts i hlt k1]; exact hkl
          have l2 : z.toNat < (nodeAt g (toM m i)).weights.length := by rw [G.wts _ htoN k2]; exact hzl
          have i1 := hxwV.iaddr l1
          have i2 := hxwV.ld l1
          have i3 := hywV.iaddr l2
          have i4 := hywV.ld l2
          have sxw := IsSl.self hxw
          have syw := IsSl.self hyw
          have hkn0 : kn = false := hkf (by omega)
          subst hkn0
          by_cases c2 : (nodeAt g i).weights.getD kk 0 = (nodeAt g (toM m i)).weights.getD z.toNat 0
          · simp only [↓stU, stD, reduceEqDiff, ↓reduceIte, ↓stV, stW, Nat.reduceAdd, decide_eq_false c1, p9, p10, p11, p12, evQ_faddr, isLoad_faddr, faddr_ptr, ld6_0 exV, ld6_4 exV, ld6_4 eyV, decide_eq_true k1, sxw, syw, natOf_cast, hnz, i1, i2, i3, i4, decide_eq_false (show ¬ (nodeAt g i).weights.getD kk 0 ≠ (nodeAt g (toM m i)).weights.getD z.toNat 0 from fun h => h c2)]
            refine wpc_non (by simp only [↓stU, stD, reduceEqDiff, ↓reduceIte, ↓stV, stW, Nat.reduceAdd]) (wpc_skip ?_)
            refine .inl ⟨rfl, rfl, rfl, ?_, ?_, ?_, ?_, Int.not_lt.1 c1, fun _ => by rw [hzd]; exact c2, fun h => by omega⟩
            · simp only [↓stU, stD, reduceEqDiff, ↓reduceIte, ↓stV, stW, Nat.reduceAdd, PairT, p1, p2, p4, p5, p8, p9, p10]
            · simp only [↓stU, stD, reduceEqDiff, ↓reduceIte, ↓stV, stW, Nat.reduceAdd, p11]
            · simp only [↓stU, stD, reduceEqDiff, ↓reduceIte, ↓stV, stW, Nat.reduceAdd, p12]
            · simp only [↓stU, stD, reduceEqDiff, ↓reduceIte, ↓stV, stW, Nat.reduceAdd]
          · simp only [↓stU, stD, reduceEqDiff, ↓reduceIte, ↓stV, stW, Nat.reduceAdd, decide_eq_false c1, p9, p10, p11, p12, evQ_faddr, isLoad_faddr, faddr_ptr, ld6_0 exV, ld6_4 exV, ld6_4 eyV, decide_eq_true k1, sxw, syw, natOf_cast, hnz, i1, i2, i3, i4, decide_eq_true (show (nodeAt g i).weights.getD kk 0 ≠ (nodeAt g (toM m i)).weights.getD z.toNat 0 from c2)]
            refine wpc_yes (by simp only [↓stU, stD, reduceEqDiff, ↓reduceIte, ↓stV, stW, Nat.reduceAdd]) ?_
            refine wsr ?_
            simp only [↓stU, stD, reduceEqDiff, ↓reduceIte, ↓stV, stW, Nat.reduceAdd]
            refine wpc_ret ?_
            refine .inr ⟨rfl, sS2.trans (Same.nx _ _), no_weigh hlt hkl (fun h => c2 (by have := h k1; rw [hzd] at this; exact this)), ?_⟩
            simp only [↓stU, stD, reduceEqDiff, ↓reduceIte, ↓stV, stW, Nat.reduceAdd]
        have hW0 : Weigh g m i kk := fun h => absurd h k1
        cases kn with
        | false =>
          simp only [↓stU, stD, reduceEqDiff, ↓reduceIte, ↓stV, stW, Nat.reduceAdd, decide_eq_false c1, p9, p11, evQ_faddr, isLoad_faddr, faddr_ptr, ld6_0 exV, decide_eq_false k1]
          refine wpc_non (by simp only [↓stU, stD, reduceEqDiff, ↓reduceIte, ↓stV, stW, Nat.reduceAdd]) (wpc_skip ?_)
          refine .inl ⟨rfl, rfl, rfl, ?_, ?_, ?_, ?_, Int.not_lt.1 c1, hW0, fun _ => trivial⟩
          · simp only [↓stU, stD, reduceEqDiff, ↓reduceIte, ↓stV, stW, Nat.reduceAdd, PairT, p1, p2, p4, p5, p8, p9, p10]
          · simp only [↓stU, stD, reduceEqDiff, ↓reduceIte, ↓stV, stW, Nat.reduceAdd, p11]
          · simp only [↓stU, stD, reduceEqDiff, ↓reduceIte, ↓stV, stW, Nat.reduceAdd, p12]
          · simp only [↓stU, stD, reduceEqDiff, ↓reduceIte, ↓stV, stW, Nat.reduceAdd]
        | true =>
          have hk : (nodeAt g i).kind = 2 := Decidable.byContradiction fun h => by have := hkf h; cases this
          obtain ⟨a1, a2, a3⟩ := G.inf i hlt hk
          have hni := natOf_nn (k := .i64) a1
          have hs : (nodeAt g i).info.toNat < g.infos.length := by omega
          have hsA : (nodeAt g i).info.toNat < As.length := by rw [hS.la]; exact hs
          have hls := hS.ls _ hs
          rw [show (((nodeAt g i).info.toNat : Nat) : Int) = (nodeAt g i).info by omega, a3] at hls
          rcases gwV with ⟨_, h0', _⟩ | ⟨wb, hw, hwb0, hwb1, hwb2, hwb3⟩
          · rw [h0'] at hs; exact absurd hs (Nat.not_lt_zero _)
          have hia := row_ia (b := wb) (o := true) hs
          have hld := ldrow hwb2 (hRV.cl _ hsA)
          have hb2 := (hRV.bl _ hsA).2.2
          have hkA : kk < (As.getD (nodeAt g i).info.toNat []).length := by omega
          have hia2 := row_ia (b := bs (nodeAt g i).info.toNat) (o := false) hkA
          have hld2 := ld64 hb2 hkA
          have srow : sameV (rowV (bs (nodeAt g i).info.toNat) (As.getD (nodeAt g i).info.toNat [])) (rowV (bs (nodeAt g i).info.toNat) (As.getD (nodeAt g i).info.toNat [])) = true := same_sl ..
          unfold rowV at hld srow
          by_cases c3 : (As.getD (nodeAt g i).info.toNat []).getD kk 0 = z
          · simp only [↓stU, stD, reduceEqDiff, ↓reduceIte, ↓stV, stW, Nat.reduceAdd, decide_eq_false c1, p5, p9, p10, p11, p12, evQ_faddr, isLoad_faddr, faddr_ptr, ld6_0 exV, ld6_2 exV, decide_eq_false k1, hw, hni, hia, hld, srow, natOf_cast, hia2, hld2, decide_eq_false (show ¬ (As.getD (nodeAt g i).info.toNat []).getD kk 0 ≠ z from fun h => h c3)]
            refine wpc_non (by simp only [↓stU, stD, reduceEqDiff, ↓reduceIte, ↓stV, stW, Nat.reduceAdd]) (wpc_skip ?_)
            refine .inl ⟨rfl, rfl, rfl, ?_, ?_, ?_, ?_, Int.not_lt.1 c1, hW0, fun _ => c3⟩
            · simp only [↓stU, stD, reduceEqDiff, ↓reduceIte, ↓stV, stW, Nat.reduceAdd, PairT, p1, p2, p4, p5, p8, p9, p10, hw]
            · simp only [↓stU, stD, reduceEqDiff, ↓reduceIte, ↓stV, stW, Nat.reduceAdd, p11]
            · simp only [↓stU, stD, reduceEqDiff, ↓reduceIte, ↓stV, stW, Nat.reduceAdd, p12]
            · simp only [↓stU, stD, reduceEqDiff, ↓reduceIte, ↓stV, stW, Nat.reduceAdd]
          · simp only [↓stU, stD, reduceEqDiff, ↓reduceIte, ↓stV, stW, Nat.reduceAdd, decide_eq_false c1, p5, p9, p10, p11, p12, evQ_faddr, isLoad_faddr, faddr_ptr, ld6_0 exV, ld6_2 exV, decide_eq_false k1, hw, hni, hia, hld, srow, natOf_cast, hia2, hld2, decide_eq_true (show (As.getD (nodeAt g i).info.toNat []).getD kk 0 ≠ z from c3)]
            obtain ⟨j, j1, j2, j3⟩ := (hkn hk).1 rfl
            refine wpc_yes (by simp only [↓stU, stD, reduceEqDiff, ↓reduceIte, ↓stV, stW, Nat.reduceAdd]) ?_
            refine wsr ?_
            simp only [↓stU, stD, reduceEqDiff, ↓reduceIte, ↓stV, stW, Nat.reduceAdd]
            refine wpc_ret ?_
            refine .inr ⟨rfl, sS2.trans (Same.nx _ _), hS.no_act G hlt (by omega) hk j2 j3 hkl (.inl j1) (by rw [hzd]; exact c3), ?_⟩
            simp only [↓stU, stD, reduceEqDiff, ↓reduceIte, ↓stV, stW, Nat.reduceAdd]
      clear p1 p2 p4 p5 p8 p9 p10 p11 p12
      rintro o ⟨F, inr⟩ V (⟨rfl, q0, rfl, hP, p11, p12, p13, hz0, hwe, hac⟩ | ⟨rfl, hf⟩)
      rotate_left
      · simp only [↓stU, stD, reduceEqDiff, ↓reduceIte, ↓stV, stW, Nat.reduceAdd]
        exact .inr hf
      simp only at q0 hP p11 p12 p13
      subst q0
      obtain ⟨p1, p2, p4, p5, p8, p9, p10⟩ := hP
      try simp only [↓stU, stD, reduceEqDiff, ↓reduceIte, ↓stV, stW, Nat.reduceAdd]
      refine wpc_mono (Q := fun o A' V => o = .normal ∧ A'.inr = false ∧ Same S1 V ∧ W2.nx ≤ V.nx ∧ (∃ As', GrW 1 S1 V v g.infos.length (cells64 I) ∧ GrW 1 S1 V w g.infos.length cs ∧ Rws S1 V bs cs As' ∧ Seen g m (fun j => j < i ∨ j = i) (fun j k' => (j < i ∨ (j = i ∧ k' < kk)) ∨ (j = i ∧ k' = kk)) I As') ∧ PairT A'.F S.nx (X.nx + 13) (X.nx + 14) mv v w i ∧ V.h.get (X.nx + 13) = W2.h.get (X.nx + 13) ∧ V.h.get (X.nx + 14) = W2.h.get (X.nx + 14) ∧ tmpV 11 A'.F = .bool kn ∧ tmpV 12 A'.F = .int .i64 (kk : Int)) (wpc_seq (wpc_reg ?_)) ?_
      · simp only [↓stU, stD, reduceEqDiff, ↓reduceIte, ↓stV, stW, Nat.reduceAdd, p9, evQ_faddr, faddr_ptr, ld6_0 exV]
        by_cases hk : (nodeAt g i).kind = 2
        rotate_left
        · refine wpc_non (by simp only [↓stU, stD, reduceEqDiff, ↓reduceIte, ↓stV, stW, Nat.reduceAdd, decide_eq_false hk]) (wpc_skip ?_)
          refine ⟨rfl, rfl, sS2.trans (Same.nx _ _), Nat.le_add_right _ _, ⟨As, gvV.step (Same.nx _ _), gwV.step (Same.nx _ _), hRV.same (Same.nx _ _), hS.kid (by rw [hzd]; exact hz0) hwe hk⟩, ?_, rfl, rfl, ?_, ?_⟩
          · simp only [↓stU, stD, reduceEqDiff, ↓reduceIte, ↓stV, stW, Nat.reduceAdd, PairT, p1, p2, p4, p5, p8, p9, p10]
          · simp only [↓stU, stD, reduceEqDiff, ↓reduceIte, ↓stV, stW, Nat.reduceAdd, p11]
          · simp only [↓stU, stD, reduceEqDiff, ↓reduceIte, ↓stV, stW, Nat.reduceAdd, p12]
        refine wpc_yes (by simp only [↓stU, stD, reduceEqDiff, ↓reduceIte, ↓stV, stW, Nat.reduceAdd, decide_eq_true hk]) ?_
        obtain ⟨a1, a2, a3⟩ := G.inf i hlt hk
        have hni := natOf_nn (k := .i64) a1
        have hs : (nodeAt g i).info.toNat < g.infos.length := by omega
        have hsA : (nodeAt g i).info.toNat < As.length := by rw [hS.la]; exact hs
        have hls := hS.ls _ hs
        rw [show (((nodeAt g i).info.toNat : Nat) : Int) = (nodeAt g i).info by omega, a3] at hls
        have hw' := gwV
        rcases hw' with ⟨_, h0', _⟩ | ⟨wb, hw, hwb0, hwb1, hwb2, hwb3⟩
        · rw [h0'] at hs; exact absurd hs (Nat.not_lt_zero _)
        have hia := row_ia (b := wb) (o := true) hs
        have hld := ldrow hwb2 (hRV.cl _ hsA)
        have hb2 := (hRV.bl _ hsA).2.2
        have hb1 := (hRV.bl _ hsA).1
        have hkA : kk < (As.getD (nodeAt g i).info.toNat []).length := by omega
        have hia2 := row_ia (b := bs (nodeAt g i).info.toNat) (o := false) hkA
        have hbX := hbs _ hs
        unfold rowV at hld
        refine wpc_reg ?_
        simp only [↓stU, stD, reduceEqDiff, ↓reduceIte, ↓stV, stW, Nat.reduceAdd, p5, p9, p12, p13, evQ_faddr, faddr_ptr, ld6_2 exV, hw, hni, hia, hld, natOf_cast, hia2]
        refine wpo_x (fun call => by simp only [↓stU, stD, reduceEqDiff, ↓reduceIte, ↓stV, stW, Nat.reduceAdd, evX_st, cells_int]; exact st64 (S := ⟨W2.h, W2.nx + 35⟩) hb2 hkA) ?_
        simp only [↓stU, stD, reduceEqDiff, ↓reduceIte, ↓stV, stW, Nat.reduceAdd]
        have hSk := hS.kidM G hlt hkl (by rw [hzd]; exact hz0) hwe hk fun j _ hj hkj e => by rw [hzd]; exact hac hk ((hkn hk).2 ⟨j, by omega, hkj, e⟩)
        rw [hzd] at hSk
        refine ⟨(sS2.trans (Same.nx _ _)).put hb1 _, Nat.le_add_right _ _, ⟨_, gvV.move (Nat.le_add_right _ _) (fun c hc => ?_), (by rw [← hw]; exact gwV.move (Nat.le_add_right _ _) (fun c hc => by simp only; rw [T.get_set, if_neg (Ne.symm (ob_ne hb2 (gwV.blk hc).2.2))])), hRV.put hsA (Nat.le_add_right _ _), hSk⟩, ?_, ?_, ?_, ?_, ?_⟩
        · simp only
          rw [T.get_set, if_neg (Ne.symm (ob_ne hb2 (gvV.blk hc).2.2))]
        · simp only [↓stU, stD, reduceEqDiff, ↓reduceIte, ↓stV, stW, Nat.reduceAdd, PairT, p1, p2, p4, p5, p8, p9, p10, hw]
        · try simp only
          rw [T.get_set, if_neg (by omega)]
        · try simp only
          rw [T.get_set, if_neg (by omega)]
        · simp only [↓stU, stD, reduceEqDiff, ↓reduceIte, ↓stV, stW, Nat.reduceAdd, p11]
        · simp only [↓stU, stD, reduceEqDiff, ↓reduceIte, ↓stV, stW, Nat.reduceAdd, p12]
      clear p1 p2 p4 p5 p8 p9 p10 p11 p12 p13
      rintro o ⟨F, inr⟩ V ⟨rfl, q0, sSV, hVn, ⟨As', gv', gw', hR', hS'⟩, hP, exV', eyV', p11, p12⟩
      simp only at q0 hP p11 p12
      subst q0
      obtain ⟨p1, p2, p4, p5, p8, p9, p10⟩ := hP
      try simp only [↓stU, stD, reduceEqDiff, ↓reduceIte, ↓stV, stW, Nat.reduceAdd]
      refine wpc_reg ?_
      simp only [↓stU, stD, reduceEqDiff, ↓reduceIte, ↓stV, stW, Nat.reduceAdd, p12, w2]
      refine ⟨k - 1, by omega, rfl, sSV, by omega, by omega, kk + 1, I, As', by omega, gv', gw', hR', hS'.congr (fun _ _ => Iff.rfl) (fun j k' _ _ h => by omega), ?_, ?_, ?_, ?_, ?_⟩
      · simp only [↓stU, stD, reduceEqDiff, ↓reduceIte, ↓stV, stW, Nat.reduceAdd, PairT, p1, p2, p4, p5, p8, p9, p10]
      · rw [exV', exV, ex]
      · rw [eyV', eyV, ey]
      · simp only [↓stU, stD, reduceEqDiff, ↓reduceIte, ↓stV, stW, Nat.reduceAdd, p11]
      · simp only [↓stU, stD, reduceEqDiff, ↓reduceIte, ↓stV, stW, Nat.reduceAdd]
    clear p1 p2 p4 p5 p8 p9 p10 p11 gvZ gwZ hRZ hSZ sSZ
    rintro o ⟨F, inr⟩ V (⟨rfl, q0, hV, _, _, kk, I2, As2, hkk, gv2, gw2, hR2, hS2, hP, _, _, p11, p12⟩ | ⟨rfl, hf⟩)
    rotate_left
    · simp only [↓stU, stD, reduceEqDiff, ↓reduceIte, ↓stV, stW, Nat.reduceAdd]
      exact .inr hf
    simp only at q0 hP
    subst q0
    obtain ⟨p1, p2, p4, p5, p8, p9, p10⟩ := hP
    try simp only [↓stU, stD, reduceEqDiff, ↓reduceIte, ↓stV, stW, Nat.reduceAdd]
    refine wpc_reg ?_
    simp only [↓stU, stD, reduceEqDiff, ↓reduceIte, ↓stV, stW, Nat.reduceAdd, p8, w1]
    refine ⟨k - 1, by omega, rfl, hV, i + 1, I2, As2, by omega, gv2, gw2, hR2, hS2.congr (fun j _ => by omega) (fun j k' _ hk' h => ?_), by simp only [↓stU, stD, reduceEqDiff, ↓reduceIte, ↓stV, stW, Nat.reduceAdd, p1], by simp only [↓stU, stD, reduceEqDiff, ↓reduceIte, ↓stV, stW, Nat.reduceAdd, p2], by simp only [↓stU, stD, reduceEqDiff, ↓reduceIte, ↓stV, stW, Nat.reduceAdd, p4], by simp only [↓stU, stD, reduceEqDiff, ↓reduceIte, ↓stV, stW, Nat.reduceAdd, p5], by simp only [↓stU, stD, reduceEqDiff, ↓reduceIte, ↓stV, stW, Nat.reduceAdd]⟩
    rcases Nat.lt_or_ge j i with h1 | h1
    · exact .inl h1
    · have e : j = i := by omega
      subst e
      exact .inr ⟨rfl, by omega⟩
  rintro o ⟨F, inr⟩ Y (⟨rfl, q0, hY, i, I, As, hik, gv', gw', hR', hS, p1, p2, p4, p5, p8⟩ | ⟨rfl, hf⟩)
  rotate_left
  · obtain ⟨h1, h2, h3, h4, h5⟩ := hf
    simp only [↓stU, stD, reduceEqDiff, ↓reduceIte, ↓stV, stW, Nat.reduceAdd, h3, h4, h5]
    exact ⟨s1.trans h1, _, _, false, rfl, ⟨fun h => (by cases h), fun a => absurd a h2⟩, fun h => by cases h⟩
  simp only at q0 p4 p5
  subst q0
  replace hS : Seen g m (fun _ => True) (fun _ _ => True) I As := hS.congr (fun j hj => ⟨fun _ => trivial, fun _ => by omega⟩) (fun j _ hj _ _ => by omega)
  clear p8 hik hX gv gw hR
  try simp only [↓stU, stD, reduceEqDiff, ↓reduceIte, ↓stV, stW, Nat.reduceAdd]
  refine wpc_seq (wpc_mono (Q := fun o A' Z => (o = .normal ∧ InjI Y v w I g.infos.length 0 A' Z) ∨ (o = .ret ∧ XFail Y g m A' Z)) (wpc_seq (wpc_reg ?_)) ?_)
  · simp only [↓stU, stD, reduceEqDiff, ↓reduceIte, ↓stV, stW, Nat.reduceAdd]
    refine wpc_block (wpc_loop (InjI Y v w I g.infos.length) ?_ g.infos.length _ _ ⟨rfl, Same.refl _, 0, by omega, fun a b _ ha => by omega, by simp only [↓stU, stD, reduceEqDiff, ↓reduceIte, ↓stV, stW, Nat.reduceAdd, p4], by simp only [↓stU, stD, reduceEqDiff, ↓reduceIte, ↓stV, stW, Nat.reduceAdd, p5], by simp only [↓stU, stD, reduceEqDiff, ↓reduceIte, ↓stV, stW, Nat.reduceAdd]⟩)
    clear p4 p5
    rintro k ⟨F, inr⟩ Z ⟨q0, hZ, i, hik, hd, p4, p5, p14⟩
    simp only at q0 p4 p5 p14
    subst q0
    have hlen := gv'.len
    refine wss ?_
    simp only [↓stU, stD, reduceEqDiff, ↓reduceIte, ↓stV, stW, Nat.reduceAdd, p4, p14, hlen]
    by_cases hlt : i < g.infos.length
    rotate_left
    · refine wpc_non (by simp only [↓stU, stD, reduceEqDiff, ↓reduceIte, ↓stV, stW, Nat.reduceAdd, decide_eq_false (show ¬ (i : Int) < ((g.infos.length : Nat) : Int) by omega)]) (wpc_exit ?_)
      simp only [↓stU, stD, reduceEqDiff, ↓reduceIte, ↓stV, stW, Nat.reduceAdd]
      have hk0 : k = 0 := by omega
      subst hk0
      exact .inl ⟨rfl, hZ, i, hik, hd, by simp only [↓stU, stD, reduceEqDiff, ↓reduceIte, ↓stV, stW, Nat.reduceAdd, p4], by simp only [↓stU, stD, reduceEqDiff, ↓reduceIte, ↓stV, stW, Nat.reduceAdd, p5], by simp only [↓stU, stD, reduceEqDiff, ↓reduceIte, ↓stV, stW, Nat.reduceAdd, p14]⟩
    refine wpc_yes (by simp only [↓stU, stD, reduceEqDiff, ↓reduceIte, ↓stV, stW, Nat.reduceAdd, decide_eq_true (show (i : Int) < ((g.infos.length : Nat) : Int) by omega)]) (wpc_skip ?_)
    try simp only [↓stU, stD, reduceEqDiff, ↓reduceIte, ↓stV, stW, Nat.reduceAdd]
    have w1 : IntKind.i64.wrap ((i : Int) + 1) = ((i + 1 : Nat) : Int) := by rw [wrap_i64 (by omega) (by omega)]; omega
    refine wpc_seq (wpc_block (wpc_seq (wpc_reg ?_)))
    simp only [↓stU, stD, reduceEqDiff, ↓reduceIte, ↓stV, stW, Nat.reduceAdd]
    refine wpc_mono (Q := fun o A' V => (o = .normal ∧ InjK Z v w I i 0 A' V) ∨ (o = .ret ∧ XFail Y g m A' V)) (wpc_block (wpc_loop (InjK Z v w I i) ?_ i _ _ ⟨rfl, Same.refl _, 0, by omega, fun b hb => by omega, by simp only [↓stU, stD, reduceEqDiff, ↓reduceIte, ↓stV, stW, Nat.reduceAdd, p4], by simp only [↓stU, stD, reduceEqDiff, ↓reduceIte, ↓stV, stW, Nat.reduceAdd, p5], by simp only [↓stU, stD, reduceEqDiff, ↓reduceIte, ↓stV, stW, Nat.reduceAdd, p14], by simp only [↓stU, stD, reduceEqDiff, ↓reduceIte, ↓stV, stW, Nat.reduceAdd]⟩)) ?_
    · clear p4 p5 p14
      rintro k' ⟨F, inr⟩ V ⟨q0, hV, l, hlk, hd', p4, p5, p14, p15⟩
      simp only at q0 p4 p5 p14 p15
      subst q0
      refine wss ?_
      simp only [↓stU, stD, reduceEqDiff, ↓reduceIte, ↓stV, stW, Nat.reduceAdd, p14, p15]
      by_cases hl : l < i
      rotate_left
      · refine wpc_non (by simp only [↓stU, stD, reduceEqDiff, ↓reduceIte, ↓stV, stW, Nat.reduceAdd, decide_eq_false (show ¬ (l : Int) < (i : Int) by omega)]) (wpc_exit ?_)
        simp only [↓stU, stD, reduceEqDiff, ↓reduceIte, ↓stV, stW, Nat.reduceAdd]
        have hk0 : k' = 0 := by omega
        subst hk0
        exact .inl ⟨rfl, hV, l, hlk, hd', by simp only [↓stU, stD, reduceEqDiff, ↓reduceIte, ↓stV, stW, Nat.reduceAdd, p4], by simp only [↓stU, stD, reduceEqDiff, ↓reduceIte, ↓stV, stW, Nat.reduceAdd, p5], by simp only [↓stU, stD, reduceEqDiff, ↓reduceIte, ↓stV, stW, Nat.reduceAdd, p14], by simp only [↓stU, stD, reduceEqDiff, ↓reduceIte, ↓stV, stW, Nat.reduceAdd, p15]⟩
      refine wpc_yes (by simp only [↓stU, stD, reduceEqDiff, ↓reduceIte, ↓stV, stW, Nat.reduceAdd, decide_eq_true (show (l : Int) < (i : Int) by omega)]) (wpc_skip ?_)
      try simp only [↓stU, stD, reduceEqDiff, ↓reduceIte, ↓stV, stW, Nat.reduceAdd]
      have gvV := gv'.step (hZ.trans hV)
      have w2 : IntKind.i64.wrap ((l : Int) + 1) = ((l + 1 : Nat) : Int) := by rw [wrap_i64 (by omega) (by omega)]; omega
      rcases gvV with ⟨_, h0', _⟩ | ⟨vb, hv, _, _, hvb2, _⟩
      · rw [h0'] at hlt; exact absurd hlt (Nat.not_lt_zero _)
      have ll : l < g.infos.length := by omega
      have hi1 := row_ia (b := vb) (o := true) hlt
      have hi2 := row_ia (b := vb) (o := true) ll
      have hl1 := ld64 hvb2 (show i < I.length by rw [hS.li]; exact hlt)
      have hl2 := ld64 hvb2 (show l < I.length by rw [hS.li]; exact ll)
      refine wpc_seq (wpc_block (wpc_seq (wpc_drq ?_)))
      simp only [↓stU, stD, reduceEqDiff, ↓reduceIte, ↓stV, stW, Nat.reduceAdd, p4, p14, p15, hv, natOf_cast, hi1, hi2, hl1, hl2]
      by_cases he : I.getD i 0 = I.getD l 0
      · refine wpc_yes (by simp only [↓stU, stD, reduceEqDiff, ↓reduceIte, ↓stV, stW, Nat.reduceAdd, decide_eq_true he]) ?_
        refine wsr ?_
        simp only [↓stU, stD, reduceEqDiff, ↓reduceIte, ↓stV, stW, Nat.reduceAdd]
        refine wpc_ret ?_
        refine .inr ⟨rfl, (hZ.trans hV).trans (Same.nx _ _), hS.no_inj G hlt ll (by omega) he, ?_⟩
        simp only [↓stU, stD, reduceEqDiff, ↓reduceIte, ↓stV, stW, Nat.reduceAdd]
      · refine wpc_non (by simp only [↓stU, stD, reduceEqDiff, ↓reduceIte, ↓stV, stW, Nat.reduceAdd, decide_eq_false he]) (wpc_skip ?_)
        try simp only [↓stU, stD, reduceEqDiff, ↓reduceIte, ↓stV, stW, Nat.reduceAdd]
        refine wpc_reg ?_
        simp only [↓stU, stD, reduceEqDiff, ↓reduceIte, ↓stV, stW, Nat.reduceAdd, p15, w2]
        refine ⟨k' - 1, by omega, rfl, hV.trans (Same.nx _ _), l + 1, by omega, fun b hb => ?_, by simp only [↓stU, stD, reduceEqDiff, ↓reduceIte, ↓stV, stW, Nat.reduceAdd, p4, hv], by simp only [↓stU, stD, reduceEqDiff, ↓reduceIte, ↓stV, stW, Nat.reduceAdd, p5], by simp only [↓stU, stD, reduceEqDiff, ↓reduceIte, ↓stV, stW, Nat.reduceAdd, p14], by simp only [↓stU, stD, reduceEqDiff, ↓reduceIte, ↓stV, stW, Nat.reduceAdd]⟩
        by_cases hbl : b = l
        · rw [hbl]; exact he
        · exact hd' b (by omega)
    clear p4 p5 p14
    rintro o ⟨F, inr⟩ V (⟨rfl, q0, hV, l, hlk, hd', p4, p5, p14, p15⟩ | ⟨rfl, hf⟩)
    rotate_left
    · simp only [↓stU, stD, reduceEqDiff, ↓reduceIte, ↓stV, stW, Nat.reduceAdd]
      exact .inr hf
    simp only at q0 p4 p5 p14
    subst q0
    try simp only [↓stU, stD, reduceEqDiff, ↓reduceIte, ↓stV, stW, Nat.reduceAdd]
    refine wpc_reg ?_
    simp only [↓stU, stD, reduceEqDiff, ↓reduceIte, ↓stV, stW, Nat.reduceAdd, p14, w1]
    refine ⟨k - 1, by omega, rfl, hZ.trans hV, i + 1, by omega, fun a b hb ha => ?_, by simp only [↓stU, stD, reduceEqDiff, ↓reduceIte, ↓stV, stW, Nat.reduceAdd, p4], by simp only [↓stU, stD, reduceEqDiff, ↓reduceIte, ↓stV, stW, Nat.reduceAdd, p5], by simp only [↓stU, stD, reduceEqDiff, ↓reduceIte, ↓stV, stW, Nat.reduceAdd]⟩
    by_cases hai : a = i
    · rw [hai]; exact hd' b (by omega)
    · exact hd a b hb (by omega)
  clear p4 p5
  rintro o ⟨F, inr⟩ Z (⟨rfl, q0, hZ, i, hik, hd, p4, p5, p14⟩ | ⟨rfl, hf⟩)
  rotate_left
  · obtain ⟨h1, h2, h3, h4, h5⟩ := hf
    simp only [↓stU, stD, reduceEqDiff, ↓reduceIte, ↓stV, stW, Nat.reduceAdd, h3, h4, h5]
    exact ⟨s1.trans (hY.trans h1), _, _, false, rfl, ⟨fun h => (by cases h), fun a => absurd a h2⟩, fun h => by cases h⟩
  simp only at q0 p4 p5
  subst q0
  try simp only [↓stU, stD, reduceEqDiff, ↓reduceIte, ↓stV, stW, Nat.reduceAdd]
  refine wsr ?_
  simp only [↓stU, stD, reduceEqDiff, ↓reduceIte, ↓stV, stW, Nat.reduceAdd, p4, p5]
  refine wpc_ret ?_
  simp only [↓stU, stD, reduceEqDiff, ↓reduceIte, ↓stV, stW, Nat.reduceAdd]
  have hi0 : i = g.infos.length := by omega
  subst hi0
  have hA := hS.auto G h0 (hS.inj G hd)
  refine ⟨s1.trans (hY.trans hZ), v, w, true, rfl, ⟨fun _ => hA, fun _ => rfl⟩, fun _ => ⟨?_, cs, bs, (gw'.step hZ).low s1.1, ?_⟩⟩
  · rw [← hS.imgI G]; exact (gv'.step hZ).low s1.1
  · rw [← hS.imgA G]; exact (hR'.same hZ).low s1.1
end Go.Ev.Gl

namespace Go.Ev.Gl
variable {fns : T AFn}

/-! ## What the program's walk has seen of a map, plain -/
theorem ximg_H {S : St} {nv iv mv : AV} {g : PGame} {m : List Int} (H : Has fns) (hn : IsSlG 6 NodeE S nv g.nodes) (hi : IsSlG 2 InfoE S iv g.infos) (hm : IsSl .i64 S mv m) : XImgH fns S nv iv mv g m (Auto g m) (XImgP g m) := fun h0 h1 h2 _ S0 hS0 =>
  images_spec H (IsSlG.same (E := NodeE) firm_node hn hS0) (IsSlG.same (E := InfoE) firm_info hi hS0) (hm.same hS0) (good_of h0) ⟨h1, h2⟩
structure SeenP (g : PGame) (m : List Int) (n e : Nat) (I F : List Int) (A : List (List Int)) : Prop where
  s : Seen g m (fun j => j < n) (fun j k => (nodeAt g j).next.getD k 0 < (e : Int)) I A
  lf : F.length = g.infos.length
  fv : ∀ j, j < g.nodes.length → j < n → (nodeAt g j).kind = 2 → F.getD (nodeAt g (toM m j)).info.toNat 0 = (nodeAt g j).info
  fw : ∀ t, t < g.infos.length → 0 ≤ F.getD t 0 → ∃ j, j < g.nodes.length ∧ j < n ∧ (nodeAt g j).kind = 2 ∧ (nodeAt g (toM m j)).info = (t : Int)
  aw : ∀ s, s < g.infos.length → ∀ k, k < (A.getD s []).length → 0 ≤ (A.getD s []).getD k 0 → ∃ j, j < g.nodes.length ∧ (nodeAt g j).kind = 2 ∧ (nodeAt g j).info = (s : Int) ∧ k < (nodeAt g j).next.length ∧ (nodeAt g j).next.getD k 0 < (e : Int)
section
variable {g : PGame} {m : List Int} {I F : List Int} {A : List (List Int)} {n e : Nat}
theorem SeenP.node (h : SeenP g m n e I F A) (hl : Like g m n) (hk : (nodeAt g n).kind ≠ 2) : SeenP g m (n + 1) e I F A :=
  ⟨(h.s.node hl hk).congr (fun j _ => by omega) (fun _ _ _ _ h => h), h.lf, fun j hj hn hkj => by
    by_cases e : j = n
    · rw [e] at hkj; exact absurd hkj hk
    · exact h.fv j hj (by omega) hkj, fun t ht h0 => by obtain ⟨j, a, b, c⟩ := h.fw t ht h0; exact ⟨j, a, by omega, c⟩, h.aw⟩
theorem SeenP.nodeM (G : GoodG g) (M : MapG g m) (h : SeenP g m n e I F A) (hi : n < g.nodes.length) (hl : Like g m n) (hk : (nodeAt g n).kind = 2) (hI : 0 ≤ I.getD (nodeAt g n).info.toNat 0 → I.getD (nodeAt g n).info.toNat 0 = (nodeAt g (toM m n)).info) (hF : 0 ≤ F.getD (nodeAt g (toM m n)).info.toNat 0 → F.getD (nodeAt g (toM m n)).info.toNat 0 = (nodeAt g n).info) :
    SeenP g m (n + 1) e (I.set (nodeAt g n).info.toNat (nodeAt g (toM m n)).info) (F.set (nodeAt g (toM m n)).info.toNat (nodeAt g n).info) A := by
  obtain ⟨b1, b2⟩ := like_info G M hi hl hk
  have hlt : (nodeAt g (toM m n)).info.toNat < F.length := by rw [h.lf]; omega
  refine ⟨(h.s.nodeM G M hi hl hk hI).congr (fun j _ => by omega) (fun _ _ _ _ h => h), by rw [List.length_set]; exact h.lf, fun j hj hn hkj => ?_, fun t ht h0 => ?_, h.aw⟩
  · rw [getD_set0 hlt]
    by_cases e : j = n
    · rw [e, if_pos rfl]
    · have hv := h.fv j hj (by omega) hkj
      split
      · rename_i e2
        have := (like_info G M hj (h.s.lk j hj (by omega)) hkj)
        have e3 : (nodeAt g (toM m n)).info = (nodeAt g (toM m j)).info := by omega
        rw [← e3] at hv
        rw [← hF (by rw [hv]; exact (G.inf j hj hkj).1), hv]
      · exact hv
  · rw [getD_set0 hlt] at h0
    split at h0
    · exact ⟨n, hi, by omega, hk, by omega⟩
    · obtain ⟨j, a, b, c⟩ := h.fw t ht h0
      exact ⟨j, a, by omega, c⟩
/-- what follows of the walk for parents and children -/
theorem GoodG.kids (G : GoodG g) : ∀ j, j < g.nodes.length → ∀ k, k < (nodeAt g j).next.length → (j : Int) < (nodeAt g j).next.getD k 0 ∧ (nodeAt g j).next.getD k 0 < g.nodes.length := fun j hj k hk => by
  obtain ⟨T, _, hTl, hW⟩ := G.walk
  have hm : (nodeAt g j).next.getD k 0 ∈ (nodeAt g j).next := by rw [List.getD_eq_getElem?_getD, List.getElem?_eq_getElem hk]; exact List.getElem_mem _
  have := hW.cf j (by omega) _ (by rw [Nat.zero_add, nextOf_at]; exact hm)
  omega
theorem GoodG.only (G : GoodG g) {j k j' k' : Nat} (hj : j < g.nodes.length) (hk : k < (nodeAt g j).next.length) (hj' : j' < g.nodes.length) (hk' : k' < (nodeAt g j').next.length) (e : (nodeAt g j).next.getD k 0 = (nodeAt g j').next.getD k' 0) : j = j' ∧ k = k' := by
  obtain ⟨T, _, hTl, hW⟩ := G.walk
  have mem : ∀ {j k : Nat}, k < (nodeAt g j).next.length → (nodeAt g j).next.getD k 0 ∈ (nodeAt g j).next := fun {j k} hk => by rw [List.getD_eq_getElem?_getD, List.getElem?_eq_getElem hk]; exact List.getElem_mem _
  have h1 := (hW.cf j (by omega) _ (by rw [Nat.zero_add, nextOf_at]; exact mem hk)).2.2
  have h2 := (hW.cf j' (by omega) _ (by rw [Nat.zero_add, nextOf_at]; exact mem hk')).2.2
  rw [e, h2] at h1
  have hjj : j = j' := by have := Option.some.inj h1; omega
  subst hjj
  have hinc := hW.inc j (by omega)
  rw [Nat.zero_add, nextOf_at] at hinc
  refine ⟨rfl, ?_⟩
  rw [List.getD_eq_getElem?_getD, List.getD_eq_getElem?_getD, List.getElem?_eq_getElem hk, List.getElem?_eq_getElem hk'] at e
  have e : (nodeAt g j).next[k] = (nodeAt g j).next[k'] := e
  rcases Nat.lt_trichotomy k k' with h | h | h
  · have := List.pairwise_iff_getElem.1 hinc k k' hk hk' h; omega
  · exact h
  · have := List.pairwise_iff_getElem.1 hinc k' k hk' hk h; omega
theorem SeenP.kid (G : GoodG g) (h : SeenP g m n n I F A) {i k : Nat} (hi : i < g.nodes.length) (hkl : k < (nodeAt g i).next.length) (hc : (nodeAt g i).next.getD k 0 = (n : Int)) (h0 : 0 ≤ kidP g m i k) (hw : Weigh g m i k) (hk : (nodeAt g i).kind ≠ 2) : SeenP g m n (n + 1) I F A :=
  ⟨(h.s.kid h0 hw hk).congr (fun _ _ => Iff.rfl) (fun j k' hj hk' h => by
    by_cases e : (nodeAt g j).next.getD k' 0 = (n : Int)
    · exact .inr (G.only hj hk' hi hkl (by rw [e, hc]))
    · exact .inl (by omega)), h.lf, h.fv, h.fw, fun s hs k hk h0 => by obtain ⟨j, a, b, c, d, e⟩ := h.aw s hs k hk h0; exact ⟨j, a, b, c, d, by omega⟩⟩
theorem SeenP.kidM (G : GoodG g) (h : SeenP g m n n I F A) {i k : Nat} (hi : i < g.nodes.length) (hkl : k < (nodeAt g i).next.length) (hc : (nodeAt g i).next.getD k 0 = (n : Int)) (h0 : 0 ≤ kidP g m i k) (hw : Weigh g m i k) (hk : (nodeAt g i).kind = 2)
    (hA : 0 ≤ (A.getD (nodeAt g i).info.toNat []).getD k 0 → (A.getD (nodeAt g i).info.toNat []).getD k 0 = kidP g m i k) : SeenP g m n (n + 1) I F (A.set (nodeAt g i).info.toNat ((A.getD (nodeAt g i).info.toNat []).set k (kidP g m i k))) := by
  obtain ⟨a1, a2, a3⟩ := G.inf i hi hk
  have hlt : (nodeAt g i).info.toNat < A.length := by rw [h.s.la]; omega
  have hls := h.s.ls (nodeAt g i).info.toNat (by omega)
  rw [show (((nodeAt g i).info.toNat : Nat) : Int) = (nodeAt g i).info by omega, a3] at hls
  refine ⟨(h.s.kidM G hi hkl h0 hw hk fun j hj hWj hkj e => ?_).congr (fun _ _ => Iff.rfl) (fun j k' hj hk' h => ?_), h.lf, h.fv, h.fw, fun s hs k' hk' h0' => ?_⟩
  · have b3 := (G.inf j hj hkj).2.2
    rw [e, a3] at b3
    obtain ⟨c1, _, c3⟩ := h.s.kd j k hj (by omega) hWj
    have := c3 hkj
    rw [e] at this
    exact hA (by rw [this]; exact c1)
  · by_cases e : (nodeAt g j).next.getD k' 0 = (n : Int)
    · exact .inr (G.only hj hk' hi hkl (by rw [e, hc]))
    · exact .inl (by omega)
  · have hold : k' < (A.getD s []).length → 0 ≤ (A.getD s []).getD k' 0 → ∃ j, j < g.nodes.length ∧ (nodeAt g j).kind = 2 ∧ (nodeAt g j).info = (s : Int) ∧ k' < (nodeAt g j).next.length ∧ (nodeAt g j).next.getD k' 0 < ((n + 1 : Nat) : Int) := fun h1 h2 => by
      obtain ⟨j, a, b, c, d, e⟩ := h.aw s hs k' h1 h2
      exact ⟨j, a, b, c, d, by omega⟩
    rw [getD_setL hlt] at hk' h0'
    split at hk'
    · rename_i e
      rw [if_pos e] at h0'
      rw [List.length_set] at hk'
      rw [getD_set0 (by omega)] at h0'
      split at h0'
      · rename_i e2
        subst e2
        exact ⟨i, hi, hk, by clear hold hA h0' hk' h; omega, hkl, by rw [hc]; exact Int.ofNat_lt.2 (Nat.lt_succ_self n)⟩
      · rw [e] at hk' h0'
        exact hold hk' h0'
    · rename_i e
      rw [if_neg e] at h0'
      exact hold hk' h0'
theorem SeenP.no_from (h : SeenP g m n e I F A) (G : GoodG g) (M : MapG g m) {i : Nat} (hi : i < g.nodes.length) (hl : Like g m i) (hk : (nodeAt g i).kind = 2) (h0 : 0 ≤ F.getD (nodeAt g (toM m i)).info.toNat 0) (h1 : F.getD (nodeAt g (toM m i)).info.toNat 0 ≠ (nodeAt g i).info) : ¬ Auto g m := fun a => by
  obtain ⟨b1, b2⟩ := like_info G M hi hl hk
  obtain ⟨j, c1, c2, c3, c4⟩ := h.fw _ (by omega) h0
  have e : (nodeAt g (toM m j)).info = (nodeAt g (toM m i)).info := by omega
  have := h.fv j c1 c2 c3
  rw [e] at this
  exact h1 (this.trans (a.inj j i c1 hi c3 hk e))
theorem SeenP.no_act (h : SeenP g m n e I F A) (G : GoodG g) {i k : Nat} (hi : i < g.nodes.length) (hk : (nodeAt g i).kind = 2) (hkl : k < (nodeAt g i).next.length) (h0 : 0 ≤ (A.getD (nodeAt g i).info.toNat []).getD k 0) (h1 : (A.getD (nodeAt g i).info.toNat []).getD k 0 ≠ kidP g m i k) : ¬ Auto g m := by
  obtain ⟨a1, a2, a3⟩ := G.inf i hi hk
  have hls := h.s.ls (nodeAt g i).info.toNat (by omega)
  rw [show (((nodeAt g i).info.toNat : Nat) : Int) = (nodeAt g i).info by omega, a3] at hls
  obtain ⟨j, b1, b2, b3, b4, b5⟩ := h.aw (nodeAt g i).info.toNat (by omega) k (by omega) h0
  exact h.s.no_act G hi b1 hk b2 (by omega) hkl b5 h1
/-- the rows of a map that is not known yet -/
def unkA (g : PGame) : List (List Int) := g.infos.map fun x => List.replicate x.actions.toNat (-1)
theorem SeenP.start (G : GoodG g) (m : List Int) : SeenP g m 0 1 (List.replicate g.infos.length (-1)) (List.replicate g.infos.length (-1)) (unkA g) := by
  have hrep : ∀ (n t : Nat), t < n → ¬ 0 ≤ (List.replicate n (-1 : Int)).getD t 0 := fun n t ht h0 => by
    rw [List.getD_eq_getElem?_getD, List.getElem?_replicate, if_pos ht] at h0
    exact absurd h0 (by decide)
  have hun : ∀ s, s < g.infos.length → (unkA g).getD s [] = List.replicate (infoAt g (s : Int)).actions.toNat (-1) := fun s hs => by
    unfold unkA infoAt
    rw [List.getD_eq_getElem?_getD, List.getElem?_map, List.getD_eq_getElem?_getD, Int.toNat_natCast, List.getElem?_eq_getElem hs]
    rfl
  refine ⟨⟨List.length_replicate .., by unfold unkA; rw [List.length_map], fun s hs => ?_, fun j _ hj => by omega, fun s hs h0 => absurd h0 (hrep _ _ hs), fun j _ hj => by omega, fun j k hj hk hw => ?_⟩, List.length_replicate .., fun j _ hj => by omega, fun t ht h0 => absurd h0 (hrep _ _ ht), fun s hs k hk h0 => ?_⟩
  · obtain ⟨f1, f2, f3⟩ := G.fst s hs
    have hac := (G.inf _ f1 f2).2.2
    rw [f3] at hac
    rw [hun s hs, List.length_replicate]
    omega
  · have := (G.kids j hj k hk).1
    omega
  · rw [hun s hs] at hk h0
    rw [List.length_replicate] at hk
    exact absurd h0 (hrep _ _ hk)
theorem SeenP.full (h : SeenP g m g.nodes.length g.nodes.length I F A) (G : GoodG g) (M : MapG g m) (root : m.getD 0 0 = 0) : Auto g m ∧ I = imgI g m ∧ A = imgA g m := by
  have hS : Seen g m (fun _ => True) (fun _ _ => True) I A := h.s.congr (fun j hj => ⟨fun _ => trivial, fun _ => hj⟩) fun j k hj hk _ => (G.kids j hj k hk).2
  refine ⟨hS.auto G root fun i j hi hj hki hkj e => ?_, hS.imgI G, hS.imgA G⟩
  rw [← h.fv i hi hi hki, ← h.fv j hj hj hkj, e]
end
/-- the place of a child's image, by parents -/
theorem kidP_par {g : PGame} {m : List Int} {T : List Trip} (hW : WF (nextOf g) 0 (-1) T) (hT : T.length = g.nodes.length) (M : MapG g m) {i k : Nat} (hi : i < g.nodes.length) (hv : ((nodeAt g i).next.getD k 0).toNat < g.nodes.length) :
    ((T.map (·.1)).getD (toM m ((nodeAt g i).next.getD k 0).toNat) 0 = ((toM m i : Nat) : Int) → 0 ≤ kidP g m i k ∧ kidP g m i k = (placeL g).getD (toM m ((nodeAt g i).next.getD k 0).toNat) 0) ∧ ((T.map (·.1)).getD (toM m ((nodeAt g i).next.getD k 0).toNat) 0 ≠ ((toM m i : Nat) : Int) → ¬ 0 ≤ kidP g m i k) := by
  obtain ⟨hve, hvN⟩ := M.at hv
  have hti := (M.at hi).2
  unfold kidP
  rw [hve]
  generalize toM m ((nodeAt g i).next.getD k 0).toNat = v at *
  generalize toM m i = t at *
  have hpar : (T.map (·.1)).getD v 0 = (parAt T v).getD 0 := by
    unfold parAt
    rw [List.getD_eq_getElem?_getD, List.getElem?_map]
  have hsome : ∃ p, parAt T v = some p := by
    unfold parAt
    rw [List.getElem?_eq_getElem (show v < T.length by omega)]
    exact ⟨_, rfl⟩
  obtain ⟨p, hp⟩ := hsome
  rw [hpar, hp]
  constructor
  · intro h
    have h : p = (t : Int) := h
    subst h
    by_cases v0 : v = 0
    · subst v0
      rw [hW.root] at hp
      have := Option.some.inj hp
      omega
    obtain ⟨q, q1, q2, q3⟩ := hW.pf v (by omega) (by omega)
    rw [hp] at q2
    have hq := Option.some.inj q2
    have hqt : q = t := by omega
    subst hqt
    rw [Nat.zero_add, Nat.zero_add, nextOf_at] at q3
    rcases placeF_get (c := ((v : Nat) : Int)) (l := (nodeAt g q).next) (s := 0) with ⟨h1, h2⟩ | ⟨j, h1, h2, _⟩
    · exact absurd q3 h2
    · have hpl := placeL_get hW hT hti (k := j) (c := ((v : Nat) : Int)) (by rw [nextOf_at]; exact h2)
      rw [Int.toNat_natCast] at hpl
      rw [h1, hpl, Nat.zero_add]
      exact ⟨by omega, rfl⟩
  · intro h h0
    have h : p ≠ (t : Int) := h
    rcases placeF_get (c := ((v : Nat) : Int)) (l := (nodeAt g t).next) (s := 0) with ⟨h1, h2⟩ | ⟨j, h1, h2, _⟩
    · rw [h1] at h0; exact absurd h0 (by decide)
    · have := (hW.cf t (by omega) _ (by rw [Nat.zero_add, nextOf_at]; exact List.mem_of_getElem? h2)).2.2
      rw [show ((v : Nat) : Int).toNat - 0 = v by omega, hp, Nat.zero_add] at this
      exact h (Option.some.inj this)
end Go.Ev.Gl
