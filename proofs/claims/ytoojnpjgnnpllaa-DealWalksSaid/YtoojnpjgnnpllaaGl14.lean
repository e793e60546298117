/- Contracts (14): rational numbers, the statements' tools, the law. -/
import Derived.Test.YtoojnpjgnnpllaaGl13
open Nat (reduceEqDiff)
set_option maxHeartbeats 4000000
set_option linter.unusedSimpArgs false
set_option linter.unusedVariables false
namespace Go.Ev.Gl
variable {fns : T AFn}

/-! ## Whether a table fits a game: the reference -/
def FxI (Z : St) (gb tb : Nat) (g : PGame) (L : List (List Int)) (k : Nat) (A : Act') (X : St) : Prop := A.inr = false ∧ Same Z X ∧ ∃ i, i + k = L.length ∧ FtOk g L i ∧ tmpV 2 A.F = .ptr gb 0 ∧ tmpV 3 A.F = .ptr tb 0 ∧ tmpV 7 A.F = .int .i64 (i : Int)
set_option maxHeartbeats 4000000 in
theorem fits_spec {S : St} {nv iv v : AV} {g : PGame} {b : Int} {L : List (List Int)} (H : Has fns) (hn : IsSlG 6 NodeE S nv g.nodes) (hi : IsSlG 2 InfoE S iv g.infos) (hv : IsSlG 1 SlE S v L) (hln : g.nodes.length ≤ 100000) (hL : L.length ≤ 10000000) :
    wpf fns (.fn 81 [] []) [.agg [.int .i64 g.players, nv, iv], .agg [.int .i64 b, v]] S fun r S' => r = .int .i64 (fitE g b L) ∧ Same S S' := by
  refine wpf_fn H.f81 (by simp) ?_
  simp only [↓stU, stD, reduceEqDiff, ↓reduceIte, ↓stV, stW, Nat.reduceAdd]
  refine wsr ?_
  refine wpo_box (cs := [.int .i64 g.players, nv, iv]) rfl ?_
  intro S1 s1 n1 c1
  refine wpo_box (cs := [.int .i64 b, v]) rfl ?_
  intro S2 s2 n2 t2
  have c2 := (s2.2 _ (show S.nx < S1.nx by omega)).trans c1
  have s12 := s1.trans s2
  simp only [↓stU, stD, reduceEqDiff, ↓reduceIte, ↓stV, stW, Nat.reduceAdd]
  refine wss ?_
  simp only [↓stU, stD, reduceEqDiff, ↓reduceIte, ↓stV, stW, Nat.reduceAdd, lg3_a c2]
  refine wpo_call ?_
  simp only [↓stU, stD, reduceEqDiff, ↓reduceIte, ↓stV, stW, Nat.reduceAdd]
  refine wpf_mono (xform_spec H (IsSlG.same (E := NodeE) firm_node hn s12) (IsSlG.same (E := InfoE) firm_info hi s12) hln) ?_
  rintro _ X ⟨rfl, hX⟩
  have sX := s12.trans hX
  have cX := (hX.2 _ (show S.nx < S2.nx by omega)).trans c2
  have tX := (hX.2 _ (show S1.nx < S2.nx by omega)).trans t2
  have nX := hX.1
  try simp only [↓stU, stD, reduceEqDiff, ↓reduceIte, ↓stV, stW, Nat.reduceAdd]
  refine wsr ?_
  simp only [↓stU, stD, reduceEqDiff, ↓reduceIte, ↓stV, stW, Nat.reduceAdd]
  by_cases h0 : formE g = 0
  rotate_left
  · refine wpc_yes (by simp only [↓stU, stD, reduceEqDiff, ↓reduceIte, ↓stV, stW, Nat.reduceAdd, decide_eq_true (show formE g ≠ 0 from h0)]) ?_
    refine wsr ?_
    simp only [↓stU, stD, reduceEqDiff, ↓reduceIte, ↓stV, stW, Nat.reduceAdd]
    refine wpc_ret ?_
    simp only [↓stU, stD, reduceEqDiff, ↓reduceIte, ↓stV, stW, Nat.reduceAdd, fitE_a h0]
    exact sX
  refine wpc_non (by simp only [↓stU, stD, reduceEqDiff, ↓reduceIte, ↓stV, stW, Nat.reduceAdd, decide_eq_false (show ¬ formE g ≠ 0 from fun h => h h0)]) (wpc_skip ?_)
  try simp only [↓stU, stD, reduceEqDiff, ↓reduceIte, ↓stV, stW, Nat.reduceAdd]
  refine wss ?_
  simp only [↓stU, stD, reduceEqDiff, ↓reduceIte, ↓stV, stW, Nat.reduceAdd, lg2_a tX]
  refine wpo_call ?_
  simp only [↓stU, stD, reduceEqDiff, ↓reduceIte, ↓stV, stW, Nat.reduceAdd]
  refine wpf_mono (xtab_spec H (IsSlG.same (E := SlE) firm_sl hv sX) hL) ?_
  rintro _ Z ⟨rfl, hZ⟩
  have sZ := sX.trans hZ
  have cZ := (hZ.2 _ (show S.nx < X.nx by omega)).trans cX
  have tZ := (hZ.2 _ (show S1.nx < X.nx by omega)).trans tX
  try simp only [↓stU, stD, reduceEqDiff, ↓reduceIte, ↓stV, stW, Nat.reduceAdd]
  refine wsr ?_
  simp only [↓stU, stD, reduceEqDiff, ↓reduceIte, ↓stV, stW, Nat.reduceAdd]
  by_cases h1 : tabE b L = 0
  rotate_left
  · refine wpc_yes (by simp only [↓stU, stD, reduceEqDiff, ↓reduceIte, ↓stV, stW, Nat.reduceAdd, decide_eq_true (show tabE b L ≠ 0 from h1)]) ?_
    refine wsr ?_
    simp only [↓stU, stD, reduceEqDiff, ↓reduceIte, ↓stV, stW, Nat.reduceAdd]
    refine wpc_ret ?_
    simp only [↓stU, stD, reduceEqDiff, ↓reduceIte, ↓stV, stW, Nat.reduceAdd, fitE_b h0 h1]
    exact sZ
  refine wpc_non (by simp only [↓stU, stD, reduceEqDiff, ↓reduceIte, ↓stV, stW, Nat.reduceAdd, decide_eq_false (show ¬ tabE b L ≠ 0 from fun h => h h1)]) (wpc_skip ?_)
  try simp only [↓stU, stD, reduceEqDiff, ↓reduceIte, ↓stV, stW, Nat.reduceAdd]
  refine wss ?_
  simp only [↓stU, stD, reduceEqDiff, ↓reduceIte, ↓stV, stW, Nat.reduceAdd, evQ_faddr, faddr_ptr, lg2_1 tZ, lg3_2 cZ, hv.len, hi.len, Int.ofNat_eq_natCast]
  by_cases h2 : L.length = g.infos.length
  rotate_left
  · refine wpc_yes (by simp only [↓stU, stD, reduceEqDiff, ↓reduceIte, ↓stV, stW, Nat.reduceAdd, decide_eq_true (show ((L.length : Nat) : Int) ≠ ((g.infos.length : Nat) : Int) by omega)]) ?_
    refine wsr ?_
    simp only [↓stU, stD, reduceEqDiff, ↓reduceIte, ↓stV, stW, Nat.reduceAdd]
    refine wpc_ret ?_
    simp only [↓stU, stD, reduceEqDiff, ↓reduceIte, ↓stV, stW, Nat.reduceAdd, fitE_c h0 h1 h2]
    exact sZ
  refine wpc_non (by simp only [↓stU, stD, reduceEqDiff, ↓reduceIte, ↓stV, stW, Nat.reduceAdd, decide_eq_false (show ¬ ((L.length : Nat) : Int) ≠ ((g.infos.length : Nat) : Int) by omega)]) (wpc_skip ?_)
  try simp only [↓stU, stD, reduceEqDiff, ↓reduceIte, ↓stV, stW, Nat.reduceAdd]
  refine wpc_seq (wpc_mono (Q := fun o A' Y => (o = .normal ∧ Same Z Y ∧ FtOk g L L.length) ∨ (o = .ret ∧ Same Z Y ∧ tmpV 4 A'.F = .int .i64 10 ∧ fitE g b L = 10)) (wpc_seq (wpc_reg ?_)) ?_)
  rotate_left
  · rintro o ⟨F, inr⟩ Y (⟨rfl, hY, hok⟩ | ⟨rfl, hY, p4, he⟩)
    · try simp only [↓stU, stD, reduceEqDiff, ↓reduceIte, ↓stV, stW, Nat.reduceAdd]
      refine wsr ?_
      simp only [↓stU, stD, reduceEqDiff, ↓reduceIte, ↓stV, stW, Nat.reduceAdd]
      refine wpc_ret ?_
      simp only [↓stU, stD, reduceEqDiff, ↓reduceIte, ↓stV, stW, Nat.reduceAdd, fitE_e h0 h1 h2 hok]
      exact sZ.trans hY
    · simp only at p4
      simp only [↓stU, stD, reduceEqDiff, ↓reduceIte, ↓stV, stW, Nat.reduceAdd, p4, he]
      exact sZ.trans hY
  simp only [↓stU, stD, reduceEqDiff, ↓reduceIte, ↓stV, stW, Nat.reduceAdd]
  refine wpc_block (wpc_loop (FxI Z S.nx S1.nx g L) ?_ L.length _ _ ⟨rfl, Same.refl _, 0, by omega, fun j hj => absurd hj (Nat.not_lt_zero j), by simp only [↓stU, stD, reduceEqDiff, ↓reduceIte, ↓stV, stW, Nat.reduceAdd], by simp only [↓stU, stD, reduceEqDiff, ↓reduceIte, ↓stV, stW, Nat.reduceAdd], by simp only [↓stU, stD, reduceEqDiff, ↓reduceIte, ↓stV, stW, Nat.reduceAdd]; try rfl⟩)
  rintro k ⟨F, inr⟩ Y ⟨q0, hY, i, hik, hok, p2, p3, p7⟩
  simp only at q0 p2 p3 p7
  subst q0
  have sY := sZ.trans hY
  have nZ := hZ.1
  have cY := (hY.2 _ (show S.nx < Z.nx by omega)).trans cZ
  have tY := (hY.2 _ (show S1.nx < Z.nx by omega)).trans tZ
  have lb1 : S.nx < Y.nx := by have := hY.1; omega
  have lb2 : S1.nx < Y.nx := by have := hY.1; omega
  refine wss ?_
  simp only [↓stU, stD, reduceEqDiff, ↓reduceIte, ↓stV, stW, Nat.reduceAdd, p3, p7, evQ_faddr, faddr_ptr, lg2_1 tY, hv.len, Int.ofNat_eq_natCast]
  by_cases hlt : i < L.length
  rotate_left
  · refine wpc_non (by simp only [↓stU, stD, reduceEqDiff, ↓reduceIte, ↓stV, stW, Nat.reduceAdd, decide_eq_false (show ¬ (i : Int) < ((L.length : Nat) : Int) by omega)]) (wpc_exit ?_)
    simp only [↓stU, stD, reduceEqDiff, ↓reduceIte, ↓stV, stW, Nat.reduceAdd]
    obtain rfl : i = L.length := by omega
    exact .inl ⟨hY, hok⟩
  refine wpc_yes (by simp only [↓stU, stD, reduceEqDiff, ↓reduceIte, ↓stV, stW, Nat.reduceAdd, decide_eq_true (show (i : Int) < ((L.length : Nat) : Int) by omega)]) (wpc_skip ?_)
  try simp only [↓stU, stD, reduceEqDiff, ↓reduceIte, ↓stV, stW, Nat.reduceAdd]
  obtain ⟨_, br, qr, hia, lbr, _, ⟨a, rfl, hrow⟩, _, hlf⟩ := IsSlG.at (IsSlG.same (E := SlE) firm_sl hv sY) (by decide) (get_some hlt)
  have hld := hlf 0 a rfl
  rw [Nat.add_zero] at hld
  obtain ⟨ei, bi, qi, hii, hbi, _, hei, _, hfi⟩ := IsSlG.at (IsSlG.same (E := InfoE) firm_info hi sY) (by decide) (infoAt_some (show i < g.infos.length by omega))
  have hei : ei = [.int .i64 (infoAt g (i : Int)).player, .int .i64 (infoAt g (i : Int)).actions] := hei
  subst hei
  have l1 := hfi 1 _ rfl
  have w1 : IntKind.i64.wrap ((i : Int) + 1) = ((i + 1 : Nat) : Int) := by rw [wrap_i64 (by omega) (by omega)]; omega
  have sv := IsSlG.self hv
  have si := IsSlG.self hi
  have sa := IsSl.self hrow
  refine wpc_seq (wpc_block (wpc_seq (wpc_drq ?_)))
  simp only [↓stU, stD, reduceEqDiff, ↓reduceIte, ↓stV, stW, Nat.reduceAdd, p2, p3, p7, evQ_faddr, isLoad_faddr, faddr_ptr, lg2_1 tY, lg3_2 cY, natOf_cast, hia, hld, hrow.len, Int.ofNat_eq_natCast, hii, l1, sv, si, sa]
  by_cases hx : (((L.getD i []).length : Nat) : Int) = (infoAt g (i : Int)).actions
  · refine wpc_non (by simp only [↓stU, stD, reduceEqDiff, ↓reduceIte, ↓stV, stW, Nat.reduceAdd, decide_eq_false (show ¬ (((L.getD i []).length : Nat) : Int) ≠ (infoAt g (i : Int)).actions from fun h => h hx)]) (wpc_skip ?_)
    try simp only [↓stU, stD, reduceEqDiff, ↓reduceIte, ↓stV, stW, Nat.reduceAdd]
    refine wpc_reg ?_
    simp only [↓stU, stD, reduceEqDiff, ↓reduceIte, ↓stV, stW, Nat.reduceAdd, p7, w1]
    exact ⟨k - 1, by omega, rfl, hY.trans (Same.nx _ _), i + 1, by omega, hok.next hx, by simp only [↓stU, stD, reduceEqDiff, ↓reduceIte, ↓stV, stW, Nat.reduceAdd, p2], by simp only [↓stU, stD, reduceEqDiff, ↓reduceIte, ↓stV, stW, Nat.reduceAdd, p3], by simp only [↓stU, stD, reduceEqDiff, ↓reduceIte, ↓stV, stW, Nat.reduceAdd]⟩
  · have he := fitE_d h0 h1 h2 hlt hx
    refine wpc_yes (by simp only [↓stU, stD, reduceEqDiff, ↓reduceIte, ↓stV, stW, Nat.reduceAdd, decide_eq_true (show (((L.getD i []).length : Nat) : Int) ≠ (infoAt g (i : Int)).actions from hx)]) ?_
    refine wsr ?_
    simp only [↓stU, stD, reduceEqDiff, ↓reduceIte, ↓stV, stW, Nat.reduceAdd]
    refine wpc_ret ?_
    simp only [↓stU, stD, reduceEqDiff, ↓reduceIte, ↓stV, stW, Nat.reduceAdd]
    exact .inr ⟨hY.trans (Same.nx _ _), he⟩
end Go.Ev.Gl

namespace Go.Ev.Gl
variable {fns : T AFn}

/-! ## The reference's spread -/
noncomputable def sprC : List AO := [⟨(some 65),(.q (.mv (.t 7))),none,0⟩,
⟨(some 66),(.q (.faddr 3 (.t 10))),none,0⟩,
⟨(some 67),(.q (.ld false 1 (.t 66))),none,2⟩,
⟨(some 68),(.q (.mv (.t 12))),none,0⟩,
⟨(some 69),(.q (.iaddr (.slice 1) (.t 67) (.t 68))),none,14⟩,
⟨(some 70),(.q (.ld false 1 (.t 69))),none,30⟩,
⟨(some 71),(.q (.mv (.t 7))),none,0⟩,
⟨(some 72),(.q (.mv (.t 9))),none,0⟩,
⟨(some 73),(.q (.iaddr (.slice 1) (.t 71) (.t 72))),none,192⟩,
⟨(some 74),(.q (.ld false 1 (.t 73))),none,448⟩,
⟨(some 75),(.q (.mv (.t 11))),none,0⟩,
⟨(some 76),(.q (.bin .mul (.p .int) (.t 74) (.t 75))),none,1984⟩,
⟨(some 77),(.q (.iaddr (.slice 1) (.t 65) (.t 70))),none,4095⟩]
/-- the blocks of the game, of the table, of the products -/
structure XsB (S : St) (gb tb pb : Nat) (ps : Int) (nv iv : AV) (b : Int) (v : AV) (X : St) : Prop where
  same : Same S X
  lg : gb < X.nx
  lt : tb < X.nx
  lp : pb < X.nx
  g : X.h.get gb = some (.cells [.int .i64 ps, nv, iv] false 0)
  t : X.h.get tb = some (.cells [.int .i64 b, v] false 0)
theorem XsB.step {S : St} {gb tb pb : Nat} {ps : Int} {nv iv : AV} {b : Int} {v : AV} {X Y : St} (h : XsB S gb tb pb ps nv iv b v X) (hs : Same X Y) : XsB S gb tb pb ps nv iv b v Y :=
  ⟨h.same.trans hs, Nat.lt_of_lt_of_le h.lg hs.1, Nat.lt_of_lt_of_le h.lt hs.1, Nat.lt_of_lt_of_le h.lp hs.1, (hs.2 _ h.lg).trans h.g, (hs.2 _ h.lt).trans h.t⟩
theorem XsB.put {S : St} {gb tb pb : Nat} {ps : Int} {nv iv : AV} {b : Int} {v : AV} {X : St} {n : Nat} {w : Option AB} (h : XsB S gb tb pb ps nv iv b v X) (h1 : S.nx ≤ pb) (h2 : gb ≠ pb) (h3 : tb ≠ pb) (hn : X.nx ≤ n) : XsB S gb tb pb ps nv iv b v ⟨X.h.set pb w, n⟩ :=
  ⟨⟨Nat.le_trans h.same.1 hn, fun c hc => by simp only; rw [T.get_set, if_neg (by omega)]; exact h.same.2 c hc⟩, Nat.lt_of_lt_of_le h.lg hn, Nat.lt_of_lt_of_le h.lt hn, Nat.lt_of_lt_of_le h.lp hn, by simp only; rw [T.get_set, if_neg h2]; exact h.g, by simp only; rw [T.get_set, if_neg h3]; exact h.t⟩
def XrI (S : St) (gb tb pb : Nat) (nv iv : AV) (b : Int) (v : AV) (M : Nat) (g : PGame) (pr : Nat → Nat) (k : Nat) (A : Act') (X : St) : Prop := A.inr = false ∧ XsB S gb tb pb g.players nv iv b v X ∧ ∃ i z R, i + k = g.nodes.length ∧ spF M g pr i = some z ∧ Below g pr R i 0 ∧ X.h.get pb = some (.cells (cells64 R) false 0) ∧ tmpV 2 A.F = .ptr gb 0 ∧ tmpV 3 A.F = .ptr tb 0 ∧ tmpV 7 A.F = .sl pb 0 g.nodes.length g.nodes.length false ∧ tmpV 8 A.F = .int .i64 ((z : Nat) : Int) ∧ tmpV 9 A.F = .int .i64 (i : Int)
def XrK (S : St) (gb tb pb xb : Nat) (nv iv : AV) (b : Int) (v : AV) (g : PGame) (pr : Nat → Nat) (i w z : Nat) (cx : Option AB) (k : Nat) (A : Act') (X : St) : Prop := A.inr = false ∧ XsB S gb tb pb g.players nv iv b v X ∧ xb < X.nx ∧ X.h.get xb = cx ∧ ∃ j R, j + k = (nodeAt g i).next.length ∧ Below g pr R i j ∧ X.h.get pb = some (.cells (cells64 R) false 0) ∧ tmpV 2 A.F = .ptr gb 0 ∧ tmpV 3 A.F = .ptr tb 0 ∧ tmpV 7 A.F = .sl pb 0 g.nodes.length g.nodes.length false ∧ tmpV 8 A.F = .int .i64 ((z : Nat) : Int) ∧ tmpV 9 A.F = .int .i64 (i : Int) ∧ tmpV 10 A.F = .ptr xb 0 ∧ tmpV 11 A.F = .int .i64 ((w : Nat) : Int) ∧ tmpV 12 A.F = .int .i64 (j : Int)
/-- the number of seeds and the error of a game with a table -/
noncomputable def sprE (g : PGame) (b : Int) (L : List (List Int)) (pr : Nat → Nat) : Int := if fitE g b L = 0 then spR (radM b) g pr else fitE g b L
noncomputable def sprN (g : PGame) (b : Int) (L : List (List Int)) (pr : Nat → Nat) : Int := if fitE g b L = 0 then spN (radM b) g pr else 0
set_option maxHeartbeats 8000000 in
theorem xspread_spec {S : St} {nv iv v : AV} {g : PGame} {b : Int} {L : List (List Int)} {pr : Nat → Nat} (H : Has fns) (hn : IsSlG 6 NodeE S nv g.nodes) (hi : IsSlG 2 InfoE S iv g.infos) (hv : IsSlG 1 SlE S v L) (hln : g.nodes.length ≤ 100000) (hL : L.length ≤ 10000000) (hpr : fitE g b L = 0 → ProdM (radM b) g pr) :
    wpf fns (.fn 34 [] []) [.agg [.int .i64 g.players, nv, iv], .agg [.int .i64 b, v]] S fun r S' => Same S S' ∧ r = .tup [.int .i64 (sprN g b L pr), .int .i64 (sprE g b L pr)] := by
  refine wpf_fn H.f34 (by simp) ?_
  simp only [↓stU, stD, reduceEqDiff, ↓reduceIte, ↓stV, stW, Nat.reduceAdd]
  refine wsr ?_
  refine wpo_box (cs := [.int .i64 g.players, nv, iv]) rfl ?_
  intro S1 s1 n1 c1
  refine wpo_box (cs := [.int .i64 b, v]) rfl ?_
  intro S2 s2 n2 t2
  have c2 := (s2.2 _ (show S.nx < S1.nx by omega)).trans c1
  have s12 := s1.trans s2
  simp only [↓stU, stD, reduceEqDiff, ↓reduceIte, ↓stV, stW, Nat.reduceAdd]
  refine wss ?_
  simp only [↓stU, stD, reduceEqDiff, ↓reduceIte, ↓stV, stW, Nat.reduceAdd, lg3_a c2, lg2_a t2]
  refine wpo_call ?_
  simp only [↓stU, stD, reduceEqDiff, ↓reduceIte, ↓stV, stW, Nat.reduceAdd]
  refine wpf_mono (fits_spec H (IsSlG.same (E := NodeE) firm_node hn s12) (IsSlG.same (E := InfoE) firm_info hi s12) (IsSlG.same (E := SlE) firm_sl hv s12) hln hL) ?_
  rintro _ X ⟨rfl, hX⟩
  have nX := hX.1
  have B0 : XsB S S.nx S1.nx X.nx g.players nv iv b v ⟨X.h, X.nx + 1⟩ := ⟨⟨by have := s12.1; show S.nx ≤ X.nx + 1; omega, (s12.trans hX).2⟩, by show S.nx < X.nx + 1; omega, by show S1.nx < X.nx + 1; omega, Nat.lt_succ_self _, (hX.2 _ (show S.nx < S2.nx by omega)).trans c2, (hX.2 _ (show S1.nx < S2.nx by omega)).trans t2⟩
  have sX := s12.trans hX
  try simp only [↓stU, stD, reduceEqDiff, ↓reduceIte, ↓stV, stW, Nat.reduceAdd]
  refine wsr ?_
  simp only [↓stU, stD, reduceEqDiff, ↓reduceIte, ↓stV, stW, Nat.reduceAdd]
  by_cases h0 : fitE g b L = 0
  rotate_left
  · have e1 : sprN g b L pr = 0 := by unfold sprN; rw [if_neg h0]
    have e2 : sprE g b L pr = fitE g b L := by unfold sprE; rw [if_neg h0]
    refine wpc_yes (by simp only [↓stU, stD, reduceEqDiff, ↓reduceIte, ↓stV, stW, Nat.reduceAdd, decide_eq_true (show fitE g b L ≠ 0 from h0)]) ?_
    refine wsr ?_
    simp only [↓stU, stD, reduceEqDiff, ↓reduceIte, ↓stV, stW, Nat.reduceAdd]
    refine wpc_ret ?_
    simp only [↓stU, stD, reduceEqDiff, ↓reduceIte, ↓stV, stW, Nat.reduceAdd, e1, e2]
    exact sX
  refine wpc_non (by simp only [↓stU, stD, reduceEqDiff, ↓reduceIte, ↓stV, stW, Nat.reduceAdd, decide_eq_false (show ¬ fitE g b L ≠ 0 from fun h => h h0)]) (wpc_skip ?_)
  try simp only [↓stU, stD, reduceEqDiff, ↓reduceIte, ↓stV, stW, Nat.reduceAdd]
  have e1 : sprN g b L pr = spN (radM b) g pr := by unfold sprN; rw [if_pos h0]
  have e2 : sprE g b L pr = spR (radM b) g pr := by unfold sprE; rw [if_pos h0]
  rw [e1, e2]
  have P := hpr h0
  obtain ⟨hf0, T⟩ := goodT_of h0
  have G := goodK_of hf0
  have hM := radM_bd T.b2
  have hsh := bin_shl1 (.p .int) (b := b) (by have := T.b1; omega) T.b2
  generalize radM b = M at *
  clear e1 e2 hpr h0 T
  have hN1 := G.good.n1
  have hN2 := G.good.n2
  refine wsr ?_
  simp only [↓stU, stD, reduceEqDiff, ↓reduceIte, Nat.reduceAdd, evQ_faddr, faddr_ptr, lg3_1 B0.g, hn.len]
  refine wpo_al (evA_mk (n := g.nodes.length) (by simp only [↓stU, stD, reduceEqDiff, ↓reduceIte, Nat.reduceAdd, natOf_cast]) (by simp only [↓stU, stD, reduceEqDiff, ↓reduceIte, Nat.reduceAdd, natOf_cast]) (by unfold room; omega) (by unfold room; omega)) ?_
  intro Y y1 m1 d1
  rw [zeros64] at d1
  simp only [↓stU, stD, reduceEqDiff, ↓reduceIte, Nat.reduceAdd]
  have B1 : XsB S S.nx S1.nx X.nx g.players nv iv b v Y := ⟨sX.trans y1, by omega, by omega, by omega, (y1.2 _ (by omega)).trans B0.g, (y1.2 _ (by omega)).trans B0.t⟩
  have lSX : S.nx ≤ X.nx := sX.1
  have nSX : S.nx ≠ X.nx := by omega
  have nTX : S1.nx ≠ X.nx := by omega
  have hi0 := row_ia (b := X.nx) (o := false) hN1
  refine wsr ?_
  simp only [↓stU, stD, reduceEqDiff, ↓reduceIte, ↓stV, stW, Nat.reduceAdd, nat0, hi0]
  refine wpo_x (fun call => by simp only [↓stU, stD, reduceEqDiff, ↓reduceIte, ↓stV, stW, Nat.reduceAdd, evX_st, cells_int]; exact st64 (S := Y) d1 (by rw [List.length_replicate]; exact hN1)) ?_
  simp only [↓stU, stD, reduceEqDiff, ↓reduceIte, ↓stV, stW, Nat.reduceAdd]
  refine wsr ?_
  simp only [↓stU, stD, reduceEqDiff, ↓reduceIte, ↓stV, stW, Nat.reduceAdd]
  have hB0 : Below g pr ((List.replicate g.nodes.length 0).set 0 1) 0 0 := ⟨by simp, by rw [getD_set0 (by rw [List.length_replicate]; exact hN1), if_pos rfl], fun q hq k hk h => by omega⟩
  refine wpc_seq (wpc_mono (Q := fun o A' Z => (o = .normal ∧ XrI S S.nx S1.nx X.nx nv iv b v M g pr 0 A' Z) ∨ (o = .ret ∧ Same S Z ∧ spF M g pr g.nodes.length = none ∧ tmpV 4 A'.F = .int .i64 0 ∧ tmpV 5 A'.F = .int .i64 5)) (wpc_seq (wpc_reg ?_)) ?_)
  rotate_left
  · rintro o ⟨F, inr⟩ Z (⟨rfl, q0, hZ, i, z, R, hik, hz, _, _, _, _, _, p8, _⟩ | ⟨rfl, hZ, hno, p4, p5⟩)
    · simp only at q0 p8
      subst q0
      obtain rfl : i = g.nodes.length := by omega
      try simp only [↓stU, stD, reduceEqDiff, ↓reduceIte, ↓stV, stW, Nat.reduceAdd]
      refine wsr ?_
      simp only [↓stU, stD, reduceEqDiff, ↓reduceIte, ↓stV, stW, Nat.reduceAdd, p8]
      refine wpc_ret ?_
      simp only [↓stU, stD, reduceEqDiff, ↓reduceIte, ↓stV, stW, Nat.reduceAdd]
      unfold spN spR
      rw [hz]
      exact ⟨hZ.same, rfl⟩
    · simp only at p4 p5
      simp only [↓stU, stD, reduceEqDiff, ↓reduceIte, ↓stV, stW, Nat.reduceAdd, p4, p5]
      unfold spN spR
      rw [hno]
      exact ⟨hZ, rfl⟩
  simp only [↓stU, stD, reduceEqDiff, ↓reduceIte, ↓stV, stW, Nat.reduceAdd]
  refine wpc_block (wpc_loop (XrI S S.nx S1.nx X.nx nv iv b v M g pr) ?_ g.nodes.length _ _ ⟨rfl, B1.put lSX nSX nTX (Nat.le_refl _), 0, 1, _, by omega, rfl, hB0, by simp only; rw [T.get_set, if_pos rfl], by simp only [↓stU, stD, reduceEqDiff, ↓reduceIte, ↓stV, stW, Nat.reduceAdd], by simp only [↓stU, stD, reduceEqDiff, ↓reduceIte, ↓stV, stW, Nat.reduceAdd], by first | (simp only [↓stU, stD, reduceEqDiff, ↓reduceIte, ↓stV, stW, Nat.reduceAdd]; done) | (simp only [↓stU, stD, reduceEqDiff, ↓reduceIte, ↓stV, stW, Nat.reduceAdd]; rfl), by simp only [↓stU, stD, reduceEqDiff, ↓reduceIte, ↓stV, stW, Nat.reduceAdd]; try rfl, by simp only [↓stU, stD, reduceEqDiff, ↓reduceIte, ↓stV, stW, Nat.reduceAdd]; try rfl⟩)
  clear hB0 B1 B0 d1 y1 m1
  rintro k ⟨F, inr⟩ V ⟨q0, BV, i, z, R, hik, hz, hBl, gV, p2, p3, p7, p8, p9⟩
  simp only at q0 p2 p3 p7 p8 p9
  subst q0
  refine wss ?_
  simp only [↓stU, stD, reduceEqDiff, ↓reduceIte, ↓stV, stW, Nat.reduceAdd, p2, p9, evQ_faddr, faddr_ptr, lg3_1 BV.g, hn.len]
  by_cases hlt : i < g.nodes.length
  rotate_left
  · refine wpc_non (by simp only [↓stU, stD, reduceEqDiff, ↓reduceIte, ↓stV, stW, Nat.reduceAdd, decide_eq_false (show ¬ (i : Int) < ((g.nodes.length : Nat) : Int) by omega)]) (wpc_exit ?_)
    simp only [↓stU, stD, reduceEqDiff, ↓reduceIte, ↓stV, stW, Nat.reduceAdd]
    have hk0 : k = 0 := by omega
    subst hk0
    exact .inl ⟨rfl, BV, i, z, R, hik, hz, hBl, gV, by simp only [↓stU, stD, reduceEqDiff, ↓reduceIte, ↓stV, stW, Nat.reduceAdd, p2], by simp only [↓stU, stD, reduceEqDiff, ↓reduceIte, ↓stV, stW, Nat.reduceAdd, p3], by simp only [↓stU, stD, reduceEqDiff, ↓reduceIte, ↓stV, stW, Nat.reduceAdd, p7], by simp only [↓stU, stD, reduceEqDiff, ↓reduceIte, ↓stV, stW, Nat.reduceAdd, p8], by simp only [↓stU, stD, reduceEqDiff, ↓reduceIte, ↓stV, stW, Nat.reduceAdd, p9]⟩
  refine wpc_yes (by simp only [↓stU, stD, reduceEqDiff, ↓reduceIte, ↓stV, stW, Nat.reduceAdd, decide_eq_true (show (i : Int) < ((g.nodes.length : Nat) : Int) by omega)]) (wpc_skip ?_)
  try simp only [↓stU, stD, reduceEqDiff, ↓reduceIte, ↓stV, stW, Nat.reduceAdd]
  obtain ⟨hz0, hz1, hzc⟩ := spF_some P hM G (by omega) hz
  have hp1 := P.pos hM G hlt
  have hp2 := P.le G hzc (Nat.le_refl i) hlt
  obtain ⟨_, bx, qx, hiax, hbx, _, ⟨xa, xw, xp, rfl, hxa, hxw, hxp⟩, hldx, _⟩ := IsSlG.at hn (by decide) (nodeAt_some hlt)
  rw [← ldSame BV.same hbx] at hldx
  have w0 : IntKind.i64.wrap ((i : Int) + 1) = ((i + 1 : Nat) : Int) := by rw [wrap_i64 (by omega) (by omega)]; omega
  have hiR := row_ia (b := X.nx) (o := false) hlt
  refine wpc_seq (wpc_block (wpc_seq (wpc_reg ?_)))
  simp only [↓stU, stD, reduceEqDiff, ↓reduceIte, Nat.reduceAdd, p2, p9, evQ_faddr, faddr_ptr, lg3_1 BV.g, natOf_cast, hiax, hldx]
  refine wpo_alloc ?_
  intro W1 v1 k1 h1
  refine wpo_st (b := V.nx) (by simp only [↓stU, stD, reduceEqDiff, ↓reduceIte, Nat.reduceAdd]) (by simp only [↓stU, stD, reduceEqDiff, ↓reduceIte, Nat.reduceAdd]; exact cells_agg _) h1 rfl rfl ?_
  intro W v2 k2 h2
  simp only [↓stU, stD, reduceEqDiff, ↓reduceIte, Nat.reduceAdd]
  have sVW : Same V W := v2.same v1 (Nat.le_refl _)
  have gW := (sVW.2 _ BV.lp).trans gV
  have BW := BV.step sVW
  have lxW : V.nx < W.nx := by omega
  have nxX : V.nx ≠ X.nx := by have := BV.lp; omega
  clear v1 v2 h1 k1 gV
  refine wsr ?_
  simp only [↓stU, stD, reduceEqDiff, ↓reduceIte, ↓stV, stW, Nat.reduceAdd]
  -- the radix
  refine wpc_seq (wpc_mono (Q := fun o A' Z => o = .normal ∧ A'.inr = false ∧ Same W Z ∧ tmpV 2 A'.F = .ptr S.nx 0 ∧ tmpV 3 A'.F = .ptr S1.nx 0 ∧ tmpV 7 A'.F = .sl X.nx 0 g.nodes.length g.nodes.length false ∧ tmpV 8 A'.F = .int .i64 ((z : Nat) : Int) ∧ tmpV 9 A'.F = .int .i64 (i : Int) ∧ tmpV 10 A'.F = .ptr V.nx 0 ∧ tmpV 11 A'.F = .int .i64 (if (nodeAt g i).kind = 1 then (nodeAt g i).weights.sum else 1)) (wpc_seq (wpc_reg ?_)) ?_)
  · simp only [↓stU, stD, reduceEqDiff, ↓reduceIte, ↓stV, stW, Nat.reduceAdd, evQ_faddr, faddr_ptr, ld6_0 h2]
    by_cases hk1 : (nodeAt g i).kind = 1
    · obtain ⟨hsm, hs1⟩ := G.small hlt hk1
      rw [if_pos hk1]
      refine wpc_yes (by simp only [↓stU, stD, reduceEqDiff, ↓reduceIte, ↓stV, stW, Nat.reduceAdd, decide_eq_true hk1]) ?_
      refine wpc_reg ?_
      simp only [↓stU, stD, reduceEqDiff, ↓reduceIte, ↓stV, stW, Nat.reduceAdd, evQ_faddr, faddr_ptr, ld6_4 h2]
      refine wpo_call ?_
      simp only [↓stU, stD, reduceEqDiff, ↓reduceIte, ↓stV, stW, Nat.reduceAdd]
      refine wpf_mono (xsum_spec H (hxw.same BW.same) hsm) ?_
      rintro _ Z ⟨rfl, hZ⟩
      simp only [↓stU, stD, reduceEqDiff, ↓reduceIte, ↓stV, stW, Nat.reduceAdd, p2, p3, p7, p8, p9]
      exact hZ
    · rw [if_neg hk1]
      refine wpc_non (by simp only [↓stU, stD, reduceEqDiff, ↓reduceIte, ↓stV, stW, Nat.reduceAdd, decide_eq_false hk1]) (wpc_skip ?_)
      simp only [↓stU, stD, reduceEqDiff, ↓reduceIte, ↓stV, stW, Nat.reduceAdd, p2, p3, p7, p8, p9]
      exact Same.refl _
  clear p2 p3 p7 p8 p9
  rintro o ⟨F, inr⟩ Z ⟨rfl, q0, hZ, p2, p3, p7, p8, p9, p10, p11⟩
  simp only at q0 p2 p3 p7 p8 p9 p10 p11
  subst q0
  have BZ := BW.step hZ
  have h2Z := (hZ.2 _ lxW).trans h2
  have gZ := (hZ.2 _ BW.lp).trans gW
  have lxZ : V.nx < Z.nx := Nat.lt_of_lt_of_le lxW hZ.1
  clear h2 gW BW
  have hwb := wM_bd hM G hlt
  have hkid := P.kid i hlt
  have hst : (nodeAt g i).kind ≠ 3 → spF M g pr (i + 1) = if 1000000000000000 < pr i * wM M g i then none else some z := fun hk3 => by
    rw [spF_succ, hz]
    show (if (nodeAt g i).kind = 3 then _ else _) = _
    rw [if_neg hk3]
  have hst3 : (nodeAt g i).kind = 3 → spF M g pr (i + 1) = lcmO z (pr i) ∧ wM M g i = 1 := fun hk3 => by
    rw [spF_succ, hz]
    refine ⟨?_, by unfold wM; rw [if_neg (by omega), if_neg (by omega)]⟩
    show (if (nodeAt g i).kind = 3 then _ else _) = _
    rw [if_pos hk3]
  try simp only [↓stU, stD, reduceEqDiff, ↓reduceIte, ↓stV, stW, Nat.reduceAdd]
  refine wpc_seq (wpc_mono (Q := fun o A' Z' => o = .normal ∧ A'.inr = false ∧ Z' = Z ∧ tmpV 2 A'.F = .ptr S.nx 0 ∧ tmpV 3 A'.F = .ptr S1.nx 0 ∧ tmpV 7 A'.F = .sl X.nx 0 g.nodes.length g.nodes.length false ∧ tmpV 8 A'.F = .int .i64 ((z : Nat) : Int) ∧ tmpV 9 A'.F = .int .i64 (i : Int) ∧ tmpV 10 A'.F = .ptr V.nx 0 ∧ tmpV 11 A'.F = .int .i64 ((wM M g i : Nat) : Int)) (wpc_seq (wpc_reg ?_)) ?_)
  · simp only [↓stU, stD, reduceEqDiff, ↓reduceIte, ↓stV, stW, Nat.reduceAdd, p10, evQ_faddr, faddr_ptr, ld6_0 h2Z]
    by_cases hk2 : (nodeAt g i).kind = 2
    · have e : ((wM M g i : Nat) : Int) = (M : Int) := by unfold wM; rw [if_neg (by omega), if_pos hk2]
      rw [e]
      refine wpc_yes (by simp only [↓stU, stD, reduceEqDiff, ↓reduceIte, ↓stV, stW, Nat.reduceAdd, decide_eq_true hk2]) ?_
      refine wpc_reg ?_
      simp only [↓stU, stD, reduceEqDiff, ↓reduceIte, ↓stV, stW, Nat.reduceAdd, p2, p3, p7, p8, p9, p10, evQ_faddr, faddr_ptr, lg2_0 BZ.t, hsh]
    · have e : (if (nodeAt g i).kind = 1 then (nodeAt g i).weights.sum else 1) = ((wM M g i : Nat) : Int) := by
        unfold wM
        split
        · rename_i hk1
          have := (G.small hlt hk1).2
          exact (Int.toNat_of_nonneg (by omega)).symm
        · first | rfl | (rw [if_neg hk2]; rfl)
      rw [e] at p11
      refine wpc_non (by simp only [↓stU, stD, reduceEqDiff, ↓reduceIte, ↓stV, stW, Nat.reduceAdd, decide_eq_false hk2]) (wpc_skip ?_)
      simp only [↓stU, stD, reduceEqDiff, ↓reduceIte, ↓stV, stW, Nat.reduceAdd, p2, p3, p7, p8, p9, p10, p11]
  clear p2 p3 p7 p8 p9 p10 p11
  rintro o ⟨F, inr⟩ Z ⟨rfl, q0, rfl, p2, p3, p7, p8, p9, p10, p11⟩
  simp only at q0 p2 p3 p7 p8 p9 p10 p11
  subst q0
  generalize wM M g i = w at *
  have hlR := ld64 gZ (show i < R.length by rw [hBl.1]; exact hlt)
  rw [hBl.atz G P.zero hlt] at hlR
  have hq2 := bin_quo_i (.p .int) (a := 1000000000000000) (b := ((w : Nat) : Int)) (by decide) (by decide) (by omega)
  have hq2' : (1000000000000000 : Int) / ((w : Nat) : Int) = ((1000000000000000 / w : Nat) : Int) := rfl
  rw [hq2'] at hq2
  have hgd := gt_div (x := pr i) (m := 1000000000000000) (show 0 < w by omega)
  try simp only [↓stU, stD, reduceEqDiff, ↓reduceIte, ↓stV, stW, Nat.reduceAdd]
  refine wpc_seq (wpc_seq (wpc_drq ?_))
  simp only [↓stU, stD, reduceEqDiff, ↓reduceIte, ↓stV, stW, Nat.reduceAdd, p7, p9, p11, natOf_cast, hiR, hlR, hq2]
  by_cases h : 1000000000000000 < pr i * w
  · have h3 := hgd.2 h
    have hk3 : (nodeAt g i).kind ≠ 3 := fun hk3 => by
      rw [(hst3 hk3).2] at h
      omega
    have hst := hst hk3
    rw [if_pos h] at hst
    refine wpc_yes (by simp only [↓stU, stD, reduceEqDiff, ↓reduceIte, ↓stV, stW, Nat.reduceAdd, decide_eq_true (show ((pr i : Nat) : Int) > ((1000000000000000 / w : Nat) : Int) by omega)]) ?_
    refine wsr ?_
    simp only [↓stU, stD, reduceEqDiff, ↓reduceIte, ↓stV, stW, Nat.reduceAdd]
    refine wpc_ret ?_
    simp only [↓stU, stD, reduceEqDiff, ↓reduceIte, ↓stV, stW, Nat.reduceAdd]
    exact .inr ⟨BZ.same.trans (Same.nx _ _), spF_none hst (by omega)⟩
  have h3 : ¬ 1000000000000000 / w < pr i := fun h4 => h (hgd.1 h4)
  refine wpc_non (by simp only [↓stU, stD, reduceEqDiff, ↓reduceIte, ↓stV, stW, Nat.reduceAdd, decide_eq_false (show ¬ ((pr i : Nat) : Int) > ((1000000000000000 / w : Nat) : Int) by omega)]) (wpc_skip ?_)
  try simp only [↓stU, stD, reduceEqDiff, ↓reduceIte, ↓stV, stW, Nat.reduceAdd]
  have hst : (nodeAt g i).kind ≠ 3 → spF M g pr (i + 1) = some z := fun h4 => by rw [hst h4, if_neg h]
  generalize hU0 : (⟨Z.h, Z.nx + _⟩ : St) = U0
  have sZU : Same Z U0 := by rw [← hU0]; exact Same.nx _ _
  have BU := BZ.step sZU
  have h2U := (sZU.2 _ lxZ).trans h2Z
  have gU := (sZU.2 _ BZ.lp).trans gZ
  have lxU : V.nx < U0.nx := Nat.lt_of_lt_of_le lxZ sZU.1
  clear hU0 sZU BZ h2Z gZ lxZ hlR
  -- the products of the children
  refine wpc_seq (wpc_mono (Q := fun o A' U => o = .normal ∧ XrK S S.nx S1.nx X.nx V.nx nv iv b v g pr i w z (U0.h.get V.nx) 0 A' U) (wpc_seq (wpc_reg ?_)) ?_)
  · simp only [↓stU, stD, reduceEqDiff, ↓reduceIte, ↓stV, stW, Nat.reduceAdd]
    refine wpc_block (wpc_loop (XrK S S.nx S1.nx X.nx V.nx nv iv b v g pr i w z (U0.h.get V.nx)) ?_ (nodeAt g i).next.length _ _ ⟨rfl, BU, lxU, rfl, 0, R, by omega, hBl, gU, by simp only [↓stU, stD, reduceEqDiff, ↓reduceIte, ↓stV, stW, Nat.reduceAdd, p2], by simp only [↓stU, stD, reduceEqDiff, ↓reduceIte, ↓stV, stW, Nat.reduceAdd, p3], by simp only [↓stU, stD, reduceEqDiff, ↓reduceIte, ↓stV, stW, Nat.reduceAdd, p7], by simp only [↓stU, stD, reduceEqDiff, ↓reduceIte, ↓stV, stW, Nat.reduceAdd, p8], by simp only [↓stU, stD, reduceEqDiff, ↓reduceIte, ↓stV, stW, Nat.reduceAdd, p9], by simp only [↓stU, stD, reduceEqDiff, ↓reduceIte, ↓stV, stW, Nat.reduceAdd, p10], by simp only [↓stU, stD, reduceEqDiff, ↓reduceIte, ↓stV, stW, Nat.reduceAdd, p11], by simp only [↓stU, stD, reduceEqDiff, ↓reduceIte, ↓stV, stW, Nat.reduceAdd]; try rfl⟩)
    clear p2 p3 p7 p8 p9 p10 p11 gU hBl
    rintro k' ⟨F, inr⟩ U ⟨q0, BU', lxU', xU, j, R', hjk, hB, gU, p2, p3, p7, p8, p9, p10, p11, p12⟩
    simp only at q0 p2 p3 p7 p8 p9 p10 p11 p12
    subst q0
    rw [h2U] at xU
    have hxaU := hxa.same BU'.same
    refine wss ?_
    simp only [↓stU, stD, reduceEqDiff, ↓reduceIte, ↓stV, stW, Nat.reduceAdd, p10, p12, evQ_faddr, faddr_ptr, ld6_3 xU, hxaU.len, Int.ofNat_eq_natCast]
    by_cases hj : j < (nodeAt g i).next.length
    rotate_left
    · refine wpc_non (by simp only [↓stU, stD, reduceEqDiff, ↓reduceIte, ↓stV, stW, Nat.reduceAdd, decide_eq_false (show ¬ (j : Int) < (((nodeAt g i).next.length : Nat) : Int) by omega)]) (wpc_exit ?_)
      simp only [↓stU, stD, reduceEqDiff, ↓reduceIte, ↓stV, stW, Nat.reduceAdd]
      have hk0 : k' = 0 := by omega
      subst hk0
      exact ⟨rfl, BU', lxU', by rw [xU, h2U], j, R', hjk, hB, gU, by simp only [↓stU, stD, reduceEqDiff, ↓reduceIte, ↓stV, stW, Nat.reduceAdd, p2], by simp only [↓stU, stD, reduceEqDiff, ↓reduceIte, ↓stV, stW, Nat.reduceAdd, p3], by simp only [↓stU, stD, reduceEqDiff, ↓reduceIte, ↓stV, stW, Nat.reduceAdd, p7], by simp only [↓stU, stD, reduceEqDiff, ↓reduceIte, ↓stV, stW, Nat.reduceAdd, p8], by simp only [↓stU, stD, reduceEqDiff, ↓reduceIte, ↓stV, stW, Nat.reduceAdd, p9], by simp only [↓stU, stD, reduceEqDiff, ↓reduceIte, ↓stV, stW, Nat.reduceAdd, p10], by simp only [↓stU, stD, reduceEqDiff, ↓reduceIte, ↓stV, stW, Nat.reduceAdd, p11], by simp only [↓stU, stD, reduceEqDiff, ↓reduceIte, ↓stV, stW, Nat.reduceAdd, p12]⟩
    refine wpc_yes (by simp only [↓stU, stD, reduceEqDiff, ↓reduceIte, ↓stV, stW, Nat.reduceAdd, decide_eq_true (show (j : Int) < (((nodeAt g i).next.length : Nat) : Int) by omega)]) (wpc_skip ?_)
    try simp only [↓stU, stD, reduceEqDiff, ↓reduceIte, ↓stV, stW, Nat.reduceAdd]
    obtain ⟨b1, b2⟩ := G.good.kids i hlt j hj
    have hpk := hkid j hj
    have hput := hB.put G hlt hj
    have hiac := hxaU.iaddr hj
    have hlac := hxaU.ld hj
    have sxa := IsSl.self hxaU
    have hlRU := ld64 gU (show i < R'.length by rw [hB.1]; exact hlt)
    rw [hB.atz G P.zero hlt] at hlRU
    have w1 : IntKind.i64.wrap ((j : Int) + 1) = ((j + 1 : Nat) : Int) := by have := G.good.nxt i hlt; rw [wrap_i64 (by omega) (by omega)]; omega
    have w2 : IntKind.i64.wrap (((pr i : Nat) : Int) * ((w : Nat) : Int)) = ((pr i * w : Nat) : Int) := by rw [← Int.natCast_mul]; exact wrap_i64 (by omega) (by omega)
    generalize (nodeAt g i).next.getD j 0 = c at *
    have hnc := natOf_nn (k := .i64) (show 0 ≤ c by omega)
    have hcN : c.toNat < g.nodes.length := by omega
    have hi2 := row_ia (b := X.nx) (o := false) hcN
    rw [hpk] at hput
    refine wpc_seq (wpc_block (wpc_drs' (pre := sprC) (K := 13) (m := 8191) (n := 1) (x := .t 77) (v := .t 76) rfl rfl rfl rfl ?_))
    unfold sprC
    simp only [↓stU, stD, reduceEqDiff, ↓reduceIte, ↓stV, stW, Nat.reduceAdd, p7, p9, p10, p11, p12, evQ_faddr, isLoad_faddr, faddr_ptr, ld6_3 xU, sxa, natOf_cast, hiac, hlac, hiR, hlRU, hnc, hi2, w2]
    simp only [cells_int, osel_some]
    refine ⟨_, st64 (S := ⟨U.h, U.nx + 14⟩) gU (by rw [hB.1]; exact hcN), ?_⟩
    refine wpc_reg ?_
    simp only [↓stU, stD, reduceEqDiff, ↓reduceIte, ↓stV, stW, Nat.reduceAdd, p12, w1]
    refine ⟨k' - 1, by omega, rfl, BU'.put lSX nSX nTX (Nat.le_add_right _ _), Nat.lt_of_lt_of_le lxU' (Nat.le_add_right _ _), ?_, j + 1, _, by omega, hput, by simp only; rw [T.get_set, if_pos rfl], by simp only [↓stU, stD, reduceEqDiff, ↓reduceIte, ↓stV, stW, Nat.reduceAdd, p2], by simp only [↓stU, stD, reduceEqDiff, ↓reduceIte, ↓stV, stW, Nat.reduceAdd, p3], by simp only [↓stU, stD, reduceEqDiff, ↓reduceIte, ↓stV, stW, Nat.reduceAdd, p7], by simp only [↓stU, stD, reduceEqDiff, ↓reduceIte, ↓stV, stW, Nat.reduceAdd, p8], by simp only [↓stU, stD, reduceEqDiff, ↓reduceIte, ↓stV, stW, Nat.reduceAdd, p9], by simp only [↓stU, stD, reduceEqDiff, ↓reduceIte, ↓stV, stW, Nat.reduceAdd, p10], by simp only [↓stU, stD, reduceEqDiff, ↓reduceIte, ↓stV, stW, Nat.reduceAdd, p11], by simp only [↓stU, stD, reduceEqDiff, ↓reduceIte, ↓stV, stW, Nat.reduceAdd]⟩
    simp only
    rw [T.get_set, if_neg nxX, h2U]; exact xU
  clear p2 p3 p7 p8 p9 p10 p11
  rintro o ⟨F, inr⟩ U ⟨rfl, q0, BU', lxU', xU, j, R', hjk, hB, gU', p2, p3, p7, p8, p9, p10, p11, p12⟩
  simp only at q0 p2 p3 p7 p8 p9 p10 p11
  subst q0
  rw [h2U] at xU
  have hBn := hB.next (show (nodeAt g i).next.length ≤ j by omega)
  try simp only [↓stU, stD, reduceEqDiff, ↓reduceIte, ↓stV, stW, Nat.reduceAdd]
  refine wpc_mono (Q := fun o A' B => (o = .normal ∧ A'.inr = false ∧ Same U B ∧ tmpV 2 A'.F = .ptr S.nx 0 ∧ tmpV 3 A'.F = .ptr S1.nx 0 ∧ tmpV 7 A'.F = .sl X.nx 0 g.nodes.length g.nodes.length false ∧ tmpV 9 A'.F = .int .i64 (i : Int) ∧ ∃ z', spF M g pr (i + 1) = some z' ∧ tmpV 8 A'.F = .int .i64 ((z' : Nat) : Int)) ∨ (o = .ret ∧ Same S B ∧ spF M g pr g.nodes.length = none ∧ tmpV 4 A'.F = .int .i64 0 ∧ tmpV 5 A'.F = .int .i64 5)) (wpc_seq (wpc_reg ?_)) ?_
  · simp only [↓stU, stD, reduceEqDiff, ↓reduceIte, ↓stV, stW, Nat.reduceAdd, p10, evQ_faddr, faddr_ptr, ld6_0 xU]
    by_cases hk3 : (nodeAt g i).kind = 3
    rotate_left
    · refine wpc_non (by simp only [↓stU, stD, reduceEqDiff, ↓reduceIte, ↓stV, stW, Nat.reduceAdd, decide_eq_false hk3]) (wpc_skip ?_)
      simp only [↓stU, stD, reduceEqDiff, ↓reduceIte, ↓stV, stW, Nat.reduceAdd, p2, p3, p7, p9]
      exact .inl ⟨Same.refl _, z, hst hk3, by simp only [↓stU, stD, reduceEqDiff, ↓reduceIte, ↓stV, stW, Nat.reduceAdd, p8]⟩
    obtain ⟨hst3, _⟩ := hst3 hk3
    have hlRU := ld64 gU' (show i < R'.length by rw [hB.1]; exact hlt)
    rw [hB.atz G P.zero hlt] at hlRU
    refine wpc_yes (by simp only [↓stU, stD, reduceEqDiff, ↓reduceIte, ↓stV, stW, Nat.reduceAdd, decide_eq_true hk3]) ?_
    refine wsr ?_
    simp only [↓stU, stD, reduceEqDiff, ↓reduceIte, ↓stV, stW, Nat.reduceAdd, p7, p8, p9, natOf_cast, hiR, hlRU]
    refine wpo_call ?_
    simp only [↓stU, stD, reduceEqDiff, ↓reduceIte, ↓stV, stW, Nat.reduceAdd]
    refine wpf_mono (multiple_spec H hz0 hp1 hz1 hp2) ?_
    rintro r B ⟨hB', hr⟩
    cases hl : lcmO z (pr i) with
    | none =>
      rw [hl] at hr hst3
      have hr : r = .tup [.int .i64 0, .bool false] := hr
      subst hr
      simp only [↓stU, stD, reduceEqDiff, ↓reduceIte, ↓stV, stW, Nat.reduceAdd, ex0, ex1]
      refine wss ?_
      simp only [↓stU, stD, reduceEqDiff, ↓reduceIte, ↓stV, stW, Nat.reduceAdd, un_not, Bool.not_false]
      refine wpc_yes (by simp only [↓stU, stD, reduceEqDiff, ↓reduceIte, ↓stV, stW, Nat.reduceAdd]) ?_
      refine wsr ?_
      simp only [↓stU, stD, reduceEqDiff, ↓reduceIte, ↓stV, stW, Nat.reduceAdd]
      refine wpc_ret ?_
      refine .inr ⟨rfl, BU'.same.trans hB', spF_none hst3 (by omega), ?_⟩
      simp only [↓stU, stD, reduceEqDiff, ↓reduceIte, ↓stV, stW, Nat.reduceAdd]
    | some y =>
      rw [hl] at hr hst3
      have hr : r = .tup [.int .i64 (y : Int), .bool true] := hr
      subst hr
      simp only [↓stU, stD, reduceEqDiff, ↓reduceIte, ↓stV, stW, Nat.reduceAdd, ex0, ex1]
      refine wss ?_
      simp only [↓stU, stD, reduceEqDiff, ↓reduceIte, ↓stV, stW, Nat.reduceAdd, un_not, Bool.not_true]
      refine wpc_non (by simp only [↓stU, stD, reduceEqDiff, ↓reduceIte, ↓stV, stW, Nat.reduceAdd]) (wpc_skip ?_)
      try simp only [↓stU, stD, reduceEqDiff, ↓reduceIte, ↓stV, stW, Nat.reduceAdd]
      refine wpc_reg ?_
      simp only [↓stU, stD, reduceEqDiff, ↓reduceIte, ↓stV, stW, Nat.reduceAdd, p2, p3, p7, p9]
      exact .inl ⟨hB', y, hst3, rfl⟩
  clear p2 p3 p7 p8 p9 p10 p11
  rintro o ⟨F, inr⟩ B (⟨rfl, q0, hB', p2, p3, p7, p9, z', hz', p8⟩ | ⟨rfl, h⟩)
  rotate_left
  · simp only [↓stU, stD, reduceEqDiff, ↓reduceIte, ↓stV, stW, Nat.reduceAdd]
    exact .inr h
  simp only at q0 p2 p3 p7 p8 p9
  subst q0
  try simp only [↓stU, stD, reduceEqDiff, ↓reduceIte, ↓stV, stW, Nat.reduceAdd]
  refine wpc_reg ?_
  simp only [↓stU, stD, reduceEqDiff, ↓reduceIte, ↓stV, stW, Nat.reduceAdd, p9, w0]
  exact ⟨k - 1, by omega, rfl, BU'.step hB', i + 1, z', R', by omega, hz', hBn, (hB'.2 _ BU'.lp).trans gU', by simp only [↓stU, stD, reduceEqDiff, ↓reduceIte, ↓stV, stW, Nat.reduceAdd, p2], by simp only [↓stU, stD, reduceEqDiff, ↓reduceIte, ↓stV, stW, Nat.reduceAdd, p3], by simp only [↓stU, stD, reduceEqDiff, ↓reduceIte, ↓stV, stW, Nat.reduceAdd, p7], by simp only [↓stU, stD, reduceEqDiff, ↓reduceIte, ↓stV, stW, Nat.reduceAdd, p8], by simp only [↓stU, stD, reduceEqDiff, ↓reduceIte, ↓stV, stW, Nat.reduceAdd]⟩
end Go.Ev.Gl

namespace Go.Ev.Gl
variable {fns : T AFn}

/-! ## The program's Spread and Walk -/
theorem path_valS {g : PGame} {b : Int} {v w : AV} {L : List (List Int)} : ∀ {k i s : Nat}, pathL g (decS b v L) k i s = pathL g (decS b w L) k i s
  | 0, _, _ => rfl
  | k + 1, i, s => by
    have h1 : (decAt (decS b v L) (nodeAt g i)).rad (nodeAt g i) = (decAt (decS b w L) (nodeAt g i)).rad (nodeAt g i) := by unfold decAt; split <;> rfl
    have h2 : ∀ d, (decAt (decS b v L) (nodeAt g i)).chs (nodeAt g i) d = (decAt (decS b w L) (nodeAt g i)).chs (nodeAt g i) d := fun d => by unfold decAt; split <;> rfl
    simp only [pathL, h1, h2, path_valS (v := v) (w := w) (k := k)]
noncomputable def walkE (g : PGame) (b : Int) (L : List (List Int)) (pr : Nat → Nat) (s : Int) : Int := if sprE g b L pr ≠ 0 then sprE g b L pr else if s < 0 ∨ sprN g b L pr ≤ s then 2 else 0
theorem sprE_zero {g : PGame} {b : Int} {L : List (List Int)} {pr : Nat → Nat} (h : sprE g b L pr = 0) : fitE g b L = 0 := by
  by_cases h0 : fitE g b L = 0
  · exact h0
  · unfold sprE at h
    rw [if_neg h0] at h
    exact absurd h h0
def tabL (g : PGame) (b : Int) (L : List (List Int)) (s : Int) : List Int := pathL g (decS b .nilsl L) g.nodes.length 0 s.toNat
def WalkR34 (S : St) (g : PGame) (b : Int) (L : List (List Int)) (pr : Nat → Nat) (s : Int) (r : AV) (X : St) : Prop := Same S X ∧ ∃ x, r = .tup [x, .int .i64 (walkE g b L pr s)] ∧ (walkE g b L pr s ≠ 0 → x = .nilsl) ∧ (walkE g b L pr s = 0 → IsSl .i64 X x (tabL g b L s))
set_option maxHeartbeats 4000000 in
theorem spreadP_spec {S : St} {nv iv v : AV} {g : PGame} {b : Int} {L : List (List Int)} {pr : Nat → Nat} (H : Has fns) (hn : IsSlG 6 NodeE S nv g.nodes) (hi : IsSlG 2 InfoE S iv g.infos) (hv : IsSlG 1 SlE S v L) (hln : g.nodes.length ≤ 100000) (hL : L.length ≤ 10000000) (hpr : fitE g b L = 0 → ProdM (radM b) g pr) :
    wpf fns (.fn 33 [] []) [.agg [.int .i64 g.players, nv, iv], .agg [.int .i64 b, v]] S fun r S' => Same S S' ∧ r = .tup [.int .i64 (sprN g b L pr), .int .i64 (sprE g b L pr)] := by
  refine wpf_fn H.f33 (by simp) ?_
  simp only [↓stU, stD, reduceEqDiff, ↓reduceIte, ↓stV, stW, Nat.reduceAdd]
  refine wsr ?_
  refine wpo_box (cs := [.int .i64 g.players, nv, iv]) rfl ?_
  intro S1 s1 n1 c1
  refine wpo_box (cs := [.int .i64 b, v]) rfl ?_
  intro S2 s2 n2 t2
  have c2 := (s2.2 _ (show S.nx < S1.nx by omega)).trans c1
  have s12 := s1.trans s2
  simp only [↓stU, stD, reduceEqDiff, ↓reduceIte, ↓stV, stW, Nat.reduceAdd]
  refine wss ?_
  simp only [↓stU, stD, reduceEqDiff, ↓reduceIte, ↓stV, stW, Nat.reduceAdd, lg3_a c2, lg2_a t2]
  refine wpo_call ?_
  simp only [↓stU, stD, reduceEqDiff, ↓reduceIte, ↓stV, stW, Nat.reduceAdd]
  refine wpf_mono (fitting_spec H (IsSlG.same (E := NodeE) firm_node hn s12) (IsSlG.same (E := InfoE) firm_info hi s12) (IsSlG.same (E := SlE) firm_sl hv s12) hln hL) ?_
  rintro _ X ⟨rfl, hX⟩
  have nX := hX.1
  have sX := s12.trans hX
  have cX := (hX.2 _ (show S.nx < S2.nx by omega)).trans c2
  have tX := (hX.2 _ (show S1.nx < S2.nx by omega)).trans t2
  try simp only [↓stU, stD, reduceEqDiff, ↓reduceIte, ↓stV, stW, Nat.reduceAdd]
  refine wsr ?_
  simp only [↓stU, stD, reduceEqDiff, ↓reduceIte, ↓stV, stW, Nat.reduceAdd]
  by_cases h0 : fitE g b L = 0
  rotate_left
  · have e1 : sprN g b L pr = 0 := by unfold sprN; rw [if_neg h0]
    have e2 : sprE g b L pr = fitE g b L := by unfold sprE; rw [if_neg h0]
    refine wpc_yes (by simp only [↓stU, stD, reduceEqDiff, ↓reduceIte, ↓stV, stW, Nat.reduceAdd, decide_eq_true (show fitE g b L ≠ 0 from h0)]) ?_
    refine wsr ?_
    simp only [↓stU, stD, reduceEqDiff, ↓reduceIte, ↓stV, stW, Nat.reduceAdd]
    refine wpc_ret ?_
    simp only [↓stU, stD, reduceEqDiff, ↓reduceIte, ↓stV, stW, Nat.reduceAdd, e1, e2]
    exact sX
  refine wpc_non (by simp only [↓stU, stD, reduceEqDiff, ↓reduceIte, ↓stV, stW, Nat.reduceAdd, decide_eq_false (show ¬ fitE g b L ≠ 0 from fun h => h h0)]) (wpc_skip ?_)
  try simp only [↓stU, stD, reduceEqDiff, ↓reduceIte, ↓stV, stW, Nat.reduceAdd]
  have e1 : sprN g b L pr = spN (radM b) g pr := by unfold sprN; rw [if_pos h0]
  have e2 : sprE g b L pr = spR (radM b) g pr := by unfold sprE; rw [if_pos h0]
  rw [e1, e2]
  obtain ⟨hf0, T⟩ := goodT_of h0
  have G := goodK_of hf0
  have hm : isLoad (.mkIface 119 (.t 14)) = false := rfl
  have hvX := IsSlG.same (E := SlE) firm_sl hv sX
  refine wsr ?_
  simp only [↓stU, stD, reduceEqDiff, ↓reduceIte, ↓stV, stW, Nat.reduceAdd, lg3_a cX, lg2_a tX, hm]
  rw [mkF (v := .agg [.int .i64 b, v]) (by simp only [↓stU, stD, reduceEqDiff, ↓reduceIte, ↓stV, stW, Nat.reduceAdd])]
  simp only [↓stU, stD, reduceEqDiff, ↓reduceIte, ↓stV, stW, Nat.reduceAdd]
  refine wpo_call ?_
  simp only [↓stU, stD, reduceEqDiff, ↓reduceIte, ↓stV, stW, Nat.reduceAdd]
  refine wpf_mono (spread_spec (D := decS b v L) (M := radM b) (pr := pr) H G (IsSlG.same (E := NodeE) firm_node hn sX) (fun i hi hk => decS_h H G hvX T hi hk) (fun _ => rfl) (radM_bd T.b2) (hpr h0)) ?_
  rintro _ Y ⟨hY, rfl⟩
  simp only [↓stU, stD, reduceEqDiff, ↓reduceIte, ↓stV, stW, Nat.reduceAdd, ex0, ex1]
  refine wpc_ret ?_
  simp only [↓stU, stD, reduceEqDiff, ↓reduceIte, ↓stV, stW, Nat.reduceAdd]
  exact sX.trans hY
set_option maxHeartbeats 4000000 in
theorem walkP_spec {S : St} {nv iv v : AV} {g : PGame} {b : Int} {L : List (List Int)} {pr : Nat → Nat} {s : Int} (H : Has fns) (hn : IsSlG 6 NodeE S nv g.nodes) (hi : IsSlG 2 InfoE S iv g.infos) (hv : IsSlG 1 SlE S v L) (hln : g.nodes.length ≤ 100000) (hL : L.length ≤ 10000000) (hs : s ≤ 9223372036854775807) (hpr : fitE g b L = 0 → ProdM (radM b) g pr) :
    wpf fns (.fn 35 [] []) [.agg [.int .i64 g.players, nv, iv], .agg [.int .i64 b, v], .int .i64 s] S (WalkR34 S g b L pr s) := by
  refine wpf_fn H.f35 (by simp) ?_
  simp only [↓stU, stD, reduceEqDiff, ↓reduceIte, ↓stV, stW, Nat.reduceAdd]
  refine wsr ?_
  refine wpo_box (cs := [.int .i64 g.players, nv, iv]) rfl ?_
  intro S1 s1 n1 c1
  refine wpo_box (cs := [.int .i64 b, v]) rfl ?_
  intro S2 s2 n2 t2
  have c2 := (s2.2 _ (show S.nx < S1.nx by omega)).trans c1
  have s12 := s1.trans s2
  simp only [↓stU, stD, reduceEqDiff, ↓reduceIte, ↓stV, stW, Nat.reduceAdd]
  refine wsr ?_
  simp only [↓stU, stD, reduceEqDiff, ↓reduceIte, ↓stV, stW, Nat.reduceAdd, lg3_a c2, lg2_a t2]
  refine wpo_call ?_
  simp only [↓stU, stD, reduceEqDiff, ↓reduceIte, ↓stV, stW, Nat.reduceAdd]
  refine wpf_mono (spreadP_spec (pr := pr) H (IsSlG.same (E := NodeE) firm_node hn s12) (IsSlG.same (E := InfoE) firm_info hi s12) (IsSlG.same (E := SlE) firm_sl hv s12) hln hL hpr) ?_
  rintro _ X ⟨hX, rfl⟩
  have nX := hX.1
  have sX := s12.trans hX
  have cX := (hX.2 _ (show S.nx < S2.nx by omega)).trans c2
  have tX := (hX.2 _ (show S1.nx < S2.nx by omega)).trans t2
  simp only [↓stU, stD, reduceEqDiff, ↓reduceIte, ↓stV, stW, Nat.reduceAdd, ex0, ex1]
  refine wss ?_
  simp only [↓stU, stD, reduceEqDiff, ↓reduceIte, ↓stV, stW, Nat.reduceAdd]
  by_cases h1 : sprE g b L pr = 0
  rotate_left
  · have hE : walkE g b L pr s = sprE g b L pr := by unfold walkE; rw [if_pos h1]
    refine wpc_yes (by simp only [↓stU, stD, reduceEqDiff, ↓reduceIte, ↓stV, stW, Nat.reduceAdd, decide_eq_true (show sprE g b L pr ≠ 0 from h1)]) ?_
    refine wsr ?_
    simp only [↓stU, stD, reduceEqDiff, ↓reduceIte, ↓stV, stW, Nat.reduceAdd]
    refine wpc_ret ?_
    simp only [↓stU, stD, reduceEqDiff, ↓reduceIte, ↓stV, stW, Nat.reduceAdd]
    exact ⟨sX, .nilsl, by rw [hE], fun _ => rfl, fun h => absurd (hE.symm.trans h) h1⟩
  refine wpc_non (by simp only [↓stU, stD, reduceEqDiff, ↓reduceIte, ↓stV, stW, Nat.reduceAdd, decide_eq_false (show ¬ sprE g b L pr ≠ 0 from fun h => h h1)]) (wpc_skip ?_)
  try simp only [↓stU, stD, reduceEqDiff, ↓reduceIte, ↓stV, stW, Nat.reduceAdd]
  have hE : walkE g b L pr s = if s < 0 ∨ sprN g b L pr ≤ s then 2 else 0 := by unfold walkE; rw [if_neg (fun h => h h1)]
  refine wss ?_
  by_cases hneg : s < 0
  · rw [if_pos (.inl hneg)] at hE
    simp only [↓stU, stD, reduceEqDiff, ↓reduceIte, ↓stV, stW, Nat.reduceAdd, decide_eq_true hneg]
    refine wpc_yes (by simp only [↓stU, stD, reduceEqDiff, ↓reduceIte, ↓stV, stW, Nat.reduceAdd]) ?_
    refine wsr ?_
    simp only [↓stU, stD, reduceEqDiff, ↓reduceIte, ↓stV, stW, Nat.reduceAdd]
    refine wpc_ret ?_
    simp only [↓stU, stD, reduceEqDiff, ↓reduceIte, ↓stV, stW, Nat.reduceAdd]
    exact ⟨sX, .nilsl, by rw [hE], fun _ => rfl, fun h => by rw [hE] at h; cases h⟩
  by_cases hge : sprN g b L pr ≤ s
  · rw [if_pos (.inr hge)] at hE
    simp only [↓stU, stD, reduceEqDiff, ↓reduceIte, ↓stV, stW, Nat.reduceAdd, decide_eq_false hneg]
    refine wpc_yes (by simp only [↓stU, stD, reduceEqDiff, ↓reduceIte, ↓stV, stW, Nat.reduceAdd, decide_eq_true hge]) ?_
    refine wsr ?_
    simp only [↓stU, stD, reduceEqDiff, ↓reduceIte, ↓stV, stW, Nat.reduceAdd]
    refine wpc_ret ?_
    simp only [↓stU, stD, reduceEqDiff, ↓reduceIte, ↓stV, stW, Nat.reduceAdd]
    exact ⟨sX, .nilsl, by rw [hE], fun _ => rfl, fun h => by rw [hE] at h; cases h⟩
  rw [if_neg (by omega)] at hE
  simp only [↓stU, stD, reduceEqDiff, ↓reduceIte, ↓stV, stW, Nat.reduceAdd, decide_eq_false hneg]
  refine wpc_non (by simp only [↓stU, stD, reduceEqDiff, ↓reduceIte, ↓stV, stW, Nat.reduceAdd, decide_eq_false hge]) (wpc_skip ?_)
  try simp only [↓stU, stD, reduceEqDiff, ↓reduceIte, ↓stV, stW, Nat.reduceAdd]
  obtain ⟨hf0, T⟩ := goodT_of (sprE_zero h1)
  have G := goodK_of hf0
  obtain ⟨n, rfl⟩ : ∃ n : Nat, s = (n : Int) := ⟨s.toNat, by omega⟩
  have hm : isLoad (.mkIface 119 (.t 27)) = false := rfl
  have hvX := IsSlG.same (E := SlE) firm_sl hv sX
  refine wsr ?_
  simp only [↓stU, stD, reduceEqDiff, ↓reduceIte, ↓stV, stW, Nat.reduceAdd, lg3_a cX, lg2_a tX, hm]
  rw [mkF (v := .agg [.int .i64 b, v]) (by simp only [↓stU, stD, reduceEqDiff, ↓reduceIte, ↓stV, stW, Nat.reduceAdd])]
  simp only [↓stU, stD, reduceEqDiff, ↓reduceIte, ↓stV, stW, Nat.reduceAdd]
  refine wpo_call ?_
  simp only [↓stU, stD, reduceEqDiff, ↓reduceIte, ↓stV, stW, Nat.reduceAdd]
  refine wpf_mono (walked34_spec (D := decS b v L) (s := n) H G (IsSlG.same (E := NodeE) firm_node hn sX) (fun i hi hk => decS_h H G hvX T hi hk) (by omega)) ?_
  rintro r Y ⟨hY, hr⟩
  try simp only [↓stU, stD, reduceEqDiff, ↓reduceIte, ↓stV, stW, Nat.reduceAdd]
  refine wpc_ret ?_
  simp only [↓stU, stD, reduceEqDiff, ↓reduceIte, ↓stV, stW, Nat.reduceAdd]
  refine ⟨sX.trans hY, r, by rw [hE], fun h => absurd hE h, fun _ => ?_⟩
  unfold tabL
  rw [Int.toNat_natCast, path_valS (w := v)]
  exact hr
end Go.Ev.Gl

namespace Go.Ev.Gl
variable {fns : T AFn}

/-! ## The reference's Walk -/
def wL (g : PGame) (L : List (List Int)) (i : Nat) : List Int := if (nodeAt g i).kind = 2 then L.getD (nodeAt g i).info.toNat [] else (nodeAt g i).weights
theorem wL_facts {g : PGame} {b : Int} {L : List (List Int)} (G : GoodK g) (T : GoodT g b L) {i : Nat} (hi : i < g.nodes.length) (hk3 : (nodeAt g i).kind ≠ 3) : SmallW (wL g L i) ∧ 1 ≤ (wL g L i).sum ∧ (wL g L i).length = (nodeAt g i).next.length ∧ ∀ v k s, pathL g (decS b v L) (k + 1) i s = (i : Int) :: pathL g (decS b v L) k ((nodeAt g i).next.getD (pickN (wL g L i) ((s % (wL g L i).sum.toNat : Nat) : Int)) 0).toNat (s / (wL g L i).sum.toNat) := by
  by_cases hk2 : (nodeAt g i).kind = 2
  · obtain ⟨a1, a2, a3⟩ := G.good.inf i hi hk2
    have hl := T.len
    have hb := radM_bd T.b2
    have hlt : (nodeAt g i).info.toNat < L.length := by omega
    have hr := T.row _ hlt
    rw [show (((nodeAt g i).info.toNat : Nat) : Int) = (nodeAt g i).info by omega, a3] at hr
    obtain ⟨hs, hsum⟩ := T.shs _ hlt
    have e : wL g L i = L.getD (nodeAt g i).info.toNat [] := by unfold wL; rw [if_pos hk2]
    rw [e]
    refine ⟨hs, by omega, by omega, fun v k s => ?_⟩
    rw [hsum, Int.toNat_natCast]
    simp only [pathL]
    rw [if_neg hk3]
    unfold decAt
    rw [if_neg (by omega)]
    rfl
  · have hk1 : (nodeAt g i).kind = 1 := by
      rcases G.knd i hi with h | h | h
      · exact h
      · exact absurd h hk2
      · exact absurd h hk3
    have e : wL g L i = (nodeAt g i).weights := by unfold wL; rw [if_neg hk2]
    rw [e]
    obtain ⟨hs, h1⟩ := G.small hi hk1
    exact ⟨hs, h1, G.good.wts i hi hk1, fun v k s => pathL_chance hk1⟩
def XwI (S Y : St) (gb tb : Nat) (cg ct : Option AB) (g : PGame) (D : Dec) (tot : List Int) (k : Nat) (A : Act') (X : St) : Prop := A.inr = false ∧ Same S X ∧ Same Y X ∧ X.h.get gb = cg ∧ X.h.get tb = ct ∧ ∃ (i s : Nat) (p : List Int) (pv : AV), i < g.nodes.length ∧ g.nodes.length ≤ k + i ∧ s ≤ 9223372036854775807 ∧ tot = p ++ pathL g D k i s ∧ p.length ≤ i ∧ OutR Y X pv (p ++ [(i : Int)]) ∧ tmpV 2 A.F = .int .i64 (s : Int) ∧ tmpV 3 A.F = .ptr gb 0 ∧ tmpV 4 A.F = .ptr tb 0 ∧ tmpV 10 A.F = .int .i64 (i : Int) ∧ tmpV 11 A.F = pv
set_option maxHeartbeats 4000000 in
theorem xwalkP_spec {S : St} {nv iv v : AV} {g : PGame} {b : Int} {L : List (List Int)} {pr : Nat → Nat} {s : Int} (H : Has fns) (hn : IsSlG 6 NodeE S nv g.nodes) (hi : IsSlG 2 InfoE S iv g.infos) (hv : IsSlG 1 SlE S v L) (hln : g.nodes.length ≤ 100000) (hL : L.length ≤ 10000000) (hs : s ≤ 9223372036854775807) (hpr : fitE g b L = 0 → ProdM (radM b) g pr) :
    wpf fns (.fn 36 [] []) [.agg [.int .i64 g.players, nv, iv], .agg [.int .i64 b, v], .int .i64 s] S (WalkR34 S g b L pr s) := by
  refine wpf_fn H.f36 (by simp) ?_
  simp only [↓stU, stD, reduceEqDiff, ↓reduceIte, ↓stV, stW, Nat.reduceAdd]
  refine wsr ?_
  refine wpo_box (cs := [.int .i64 g.players, nv, iv]) rfl ?_
  intro S1 s1 n1 c1
  refine wpo_box (cs := [.int .i64 b, v]) rfl ?_
  intro S2 s2 n2 t2
  have c2 := (s2.2 _ (show S.nx < S1.nx by omega)).trans c1
  have s12 := s1.trans s2
  simp only [↓stU, stD, reduceEqDiff, ↓reduceIte, ↓stV, stW, Nat.reduceAdd]
  refine wsr ?_
  simp only [↓stU, stD, reduceEqDiff, ↓reduceIte, ↓stV, stW, Nat.reduceAdd, lg3_a c2, lg2_a t2]
  refine wpo_call ?_
  simp only [↓stU, stD, reduceEqDiff, ↓reduceIte, ↓stV, stW, Nat.reduceAdd]
  refine wpf_mono (xspread_spec (pr := pr) H (IsSlG.same (E := NodeE) firm_node hn s12) (IsSlG.same (E := InfoE) firm_info hi s12) (IsSlG.same (E := SlE) firm_sl hv s12) hln hL hpr) ?_
  rintro _ X ⟨hX, rfl⟩
  have nX := hX.1
  have sX := s12.trans hX
  have cX := (hX.2 _ (show S.nx < S2.nx by omega)).trans c2
  have tX := (hX.2 _ (show S1.nx < S2.nx by omega)).trans t2
  simp only [↓stU, stD, reduceEqDiff, ↓reduceIte, ↓stV, stW, Nat.reduceAdd, ex0, ex1]
  refine wss ?_
  simp only [↓stU, stD, reduceEqDiff, ↓reduceIte, ↓stV, stW, Nat.reduceAdd]
  by_cases h1 : sprE g b L pr = 0
  rotate_left
  · have hE : walkE g b L pr s = sprE g b L pr := by unfold walkE; rw [if_pos h1]
    refine wpc_yes (by simp only [↓stU, stD, reduceEqDiff, ↓reduceIte, ↓stV, stW, Nat.reduceAdd, decide_eq_true (show sprE g b L pr ≠ 0 from h1)]) ?_
    refine wsr ?_
    simp only [↓stU, stD, reduceEqDiff, ↓reduceIte, ↓stV, stW, Nat.reduceAdd]
    refine wpc_ret ?_
    simp only [↓stU, stD, reduceEqDiff, ↓reduceIte, ↓stV, stW, Nat.reduceAdd]
    exact ⟨sX, .nilsl, by rw [hE], fun _ => rfl, fun h => absurd (hE.symm.trans h) h1⟩
  refine wpc_non (by simp only [↓stU, stD, reduceEqDiff, ↓reduceIte, ↓stV, stW, Nat.reduceAdd, decide_eq_false (show ¬ sprE g b L pr ≠ 0 from fun h => h h1)]) (wpc_skip ?_)
  try simp only [↓stU, stD, reduceEqDiff, ↓reduceIte, ↓stV, stW, Nat.reduceAdd]
  have hE : walkE g b L pr s = if s < 0 ∨ sprN g b L pr ≤ s then 2 else 0 := by unfold walkE; rw [if_neg (fun h => h h1)]
  refine wss ?_
  by_cases hneg : s < 0
  · rw [if_pos (.inl hneg)] at hE
    simp only [↓stU, stD, reduceEqDiff, ↓reduceIte, ↓stV, stW, Nat.reduceAdd, decide_eq_true hneg]
    refine wpc_yes (by simp only [↓stU, stD, reduceEqDiff, ↓reduceIte, ↓stV, stW, Nat.reduceAdd]) ?_
    refine wsr ?_
    simp only [↓stU, stD, reduceEqDiff, ↓reduceIte, ↓stV, stW, Nat.reduceAdd]
    refine wpc_ret ?_
    simp only [↓stU, stD, reduceEqDiff, ↓reduceIte, ↓stV, stW, Nat.reduceAdd]
    exact ⟨sX, .nilsl, by rw [hE], fun _ => rfl, fun h => by rw [hE] at h; cases h⟩
  by_cases hge : sprN g b L pr ≤ s
  · rw [if_pos (.inr hge)] at hE
    simp only [↓stU, stD, reduceEqDiff, ↓reduceIte, ↓stV, stW, Nat.reduceAdd, decide_eq_false hneg]
    refine wpc_yes (by simp only [↓stU, stD, reduceEqDiff, ↓reduceIte, ↓stV, stW, Nat.reduceAdd, decide_eq_true hge]) ?_
    refine wsr ?_
    simp only [↓stU, stD, reduceEqDiff, ↓reduceIte, ↓stV, stW, Nat.reduceAdd]
    refine wpc_ret ?_
    simp only [↓stU, stD, reduceEqDiff, ↓reduceIte, ↓stV, stW, Nat.reduceAdd]
    exact ⟨sX, .nilsl, by rw [hE], fun _ => rfl, fun h => by rw [hE] at h; cases h⟩
  rw [if_neg (by omega)] at hE
  simp only [↓stU, stD, reduceEqDiff, ↓reduceIte, ↓stV, stW, Nat.reduceAdd, decide_eq_false hneg]
  refine wpc_non (by simp only [↓stU, stD, reduceEqDiff, ↓reduceIte, ↓stV, stW, Nat.reduceAdd, decide_eq_false hge]) (wpc_skip ?_)
  try simp only [↓stU, stD, reduceEqDiff, ↓reduceIte, ↓stV, stW, Nat.reduceAdd]
  obtain ⟨hf0, T⟩ := goodT_of (sprE_zero h1)
  have G := goodK_of hf0
  obtain ⟨n, rfl⟩ : ∃ n : Nat, s = (n : Int) := ⟨s.toNat, by omega⟩
  have hN1 := G.good.n1
  have hN2 := G.good.n2
  have lgX : S.nx < X.nx := by omega
  have ltX : S1.nx < X.nx := by omega
  refine wsr ?_
  simp only [↓stU, stD, reduceEqDiff, ↓reduceIte, ↓stV, stW, Nat.reduceAdd]
  refine wsr ?_
  simp only [↓stU, stD, reduceEqDiff, ↓reduceIte, Nat.reduceAdd]
  refine wpo_al (evA_one (n := 0) (k := .i64) (by first | rfl | simp only [↓stU, stD, reduceEqDiff, ↓reduceIte, Nat.reduceAdd])) ?_
  intro X2 x2 m2 g2
  simp only [↓stU, stD, reduceEqDiff, ↓reduceIte, Nat.reduceAdd]
  have hE' : walkE g b L pr (n : Int) = 0 := hE
  have htab : tabL g b L (n : Int) = pathL g (decS b v L) g.nodes.length 0 n := by
    unfold tabL
    rw [Int.toNat_natCast]
    exact path_valS
  refine wpc_seq (wpc_mono (Q := fun o A' Z => o = .normal ∧ A'.inr = false ∧ Same S Z ∧ IsSl .i64 Z (tmpV 11 A'.F) (pathL g (decS b v L) g.nodes.length 0 n)) (wpc_block (wpc_loop (XwI S X S.nx S1.nx (some (.cells [.int .i64 g.players, nv, iv] false 0)) (some (.cells [.int .i64 b, v] false 0)) g (decS b v L) (pathL g (decS b v L) g.nodes.length 0 n)) ?_ g.nodes.length _ _ ⟨rfl, sX.trans x2, x2, (x2.2 _ lgX).trans cX, (x2.2 _ ltX).trans tX, 0, n, [], .sl X.nx 0 1 1 false, hN1, by omega, by omega, rfl, Nat.le_refl _, .inl ⟨X.nx, 0, rfl, rfl, Nat.le_refl _, by omega, g2⟩, by simp only [↓stU, stD, reduceEqDiff, ↓reduceIte, Nat.reduceAdd], by simp only [↓stU, stD, reduceEqDiff, ↓reduceIte, Nat.reduceAdd], by simp only [↓stU, stD, reduceEqDiff, ↓reduceIte, Nat.reduceAdd], by first | rfl | simp only [↓stU, stD, reduceEqDiff, ↓reduceIte, Nat.reduceAdd], by simp only [↓stU, stD, reduceEqDiff, ↓reduceIte, Nat.reduceAdd]⟩)) ?_)
  rotate_left
  · rintro o ⟨F, inr⟩ Z ⟨rfl, q0, hZ, hr⟩
    simp only at q0 hr
    subst q0
    generalize hpv : tmpV 11 F = pv at hr
    try simp only [↓stU, stD, reduceEqDiff, ↓reduceIte, ↓stV, stW, Nat.reduceAdd]
    refine wsr ?_
    simp only [↓stU, stD, reduceEqDiff, ↓reduceIte, ↓stV, stW, Nat.reduceAdd, hpv]
    refine wpc_ret ?_
    simp only [↓stU, stD, reduceEqDiff, ↓reduceIte, ↓stV, stW, Nat.reduceAdd]
    exact ⟨hZ, pv, by rw [hE'], fun h => absurd hE' h, fun _ => by rw [htab]; exact hr⟩
  clear x2 m2 g2 cX tX htab
  rintro k ⟨F, inr⟩ V ⟨q0, hV, xV, cV, tV, i, s, p, pv, hlt, hNk, hss, htot, hpl, hout, p2, p3, p4, p10, p11⟩
  simp only at q0 p2 p3 p4 p10 p11
  subst q0
  have lgV : S.nx < V.nx := Nat.lt_of_lt_of_le lgX xV.1
  have ltV : S1.nx < V.nx := Nat.lt_of_lt_of_le ltX xV.1
  obtain ⟨k, rfl⟩ : ∃ k', k = k' + 1 := ⟨k - 1, by omega⟩
  obtain ⟨_, bx, qx, hiax, hbx, _, ⟨xa, xw, xp, rfl, hxa, hxw, hxp⟩, hldx, hfx⟩ := IsSlG.at (IsSlG.same (E := NodeE) firm_node hn hV) (by decide) (nodeAt_some hlt)
  have l0 := hfx 0 _ rfl
  refine wss ?_
  simp only [↓stU, stD, reduceEqDiff, ↓reduceIte, ↓stV, stW, Nat.reduceAdd, p3, p10, evQ_faddr, faddr_ptr, lg3_1 cV, natOf_cast, hiax, l0]
  by_cases hk3 : (nodeAt g i).kind = 3
  · rw [pathL_end hk3] at htot
    refine wpc_non (by simp only [↓stU, stD, reduceEqDiff, ↓reduceIte, ↓stV, stW, Nat.reduceAdd, decide_eq_false (show ¬ (nodeAt g i).kind ≠ 3 from fun h => h hk3)]) (wpc_exit ?_)
    simp only [↓stU, stD, reduceEqDiff, ↓reduceIte, ↓stV, stW, Nat.reduceAdd, p11]
    rw [htot]
    exact ⟨hV, hout.is⟩
  refine wpc_yes (by simp only [↓stU, stD, reduceEqDiff, ↓reduceIte, ↓stV, stW, Nat.reduceAdd, decide_eq_true (show (nodeAt g i).kind ≠ 3 from hk3)]) (wpc_skip ?_)
  try simp only [↓stU, stD, reduceEqDiff, ↓reduceIte, ↓stV, stW, Nat.reduceAdd]
  obtain ⟨hsm, hs1, hwl, hst⟩ := wL_facts G T hlt hk3
  have hst := hst v k s
  have hall := hsm.all
  refine wpc_block (wpc_seq (wpc_reg ?_))
  simp only [↓stU, stD, reduceEqDiff, ↓reduceIte, Nat.reduceAdd, p3, p10, evQ_faddr, faddr_ptr, lg3_1 cV, natOf_cast, hiax, hldx]
  refine wpo_alloc ?_
  intro W1 v1 k1 h1'
  refine wpo_st (b := V.nx) (by simp only [↓stU, stD, reduceEqDiff, ↓reduceIte, Nat.reduceAdd]) (by simp only [↓stU, stD, reduceEqDiff, ↓reduceIte, Nat.reduceAdd]; exact cells_agg _) h1' rfl rfl ?_
  intro W v2 k2 h2
  simp only [↓stU, stD, reduceEqDiff, ↓reduceIte, Nat.reduceAdd]
  have sVW : Same V W := v2.same v1 (Nat.le_refl _)
  have sW := hV.trans sVW
  have lxW : V.nx < W.nx := by omega
  have tW := (sVW.2 _ ltV).trans tV
  have sxa := IsSl.self hxa
  have hxaW := hxa.same sVW
  refine wsr ?_
  simp only [↓stU, stD, reduceEqDiff, ↓reduceIte, ↓stV, stW, Nat.reduceAdd, evQ_faddr, faddr_ptr, ld6_4 h2]
  -- the weights
  refine wpc_seq (wpc_mono (Q := fun o A' Z => o = .normal ∧ A'.inr = false ∧ Z = W ∧ IsSl .i64 W (tmpV 13 A'.F) (wL g L i) ∧ tmpV 2 A'.F = .int .i64 (s : Int) ∧ tmpV 3 A'.F = .ptr S.nx 0 ∧ tmpV 4 A'.F = .ptr S1.nx 0 ∧ tmpV 11 A'.F = pv ∧ tmpV 12 A'.F = .ptr V.nx 0) (wpc_seq (wpc_reg ?_)) ?_)
  · simp only [↓stU, stD, reduceEqDiff, ↓reduceIte, ↓stV, stW, Nat.reduceAdd, evQ_faddr, faddr_ptr, ld6_0 h2]
    by_cases hk2 : (nodeAt g i).kind = 2
    · have e : wL g L i = L.getD (nodeAt g i).info.toNat [] := by unfold wL; rw [if_pos hk2]
      obtain ⟨a1, a2, a3⟩ := G.good.inf i hlt hk2
      have hil : (nodeAt g i).info.toNat < L.length := by have := T.len; omega
      have n1' := natOf_nn (k := .i64) a1
      obtain ⟨_, br, qr, hia, lbr, _, ⟨a, rfl, hrow⟩, _, hlf⟩ := IsSlG.at (IsSlG.same (E := SlE) firm_sl hv sW) (by decide) (get_some hil)
      have hld := hlf 0 a rfl
      rw [Nat.add_zero] at hld
      rw [e]
      refine wpc_yes (by simp only [↓stU, stD, reduceEqDiff, ↓reduceIte, ↓stV, stW, Nat.reduceAdd, decide_eq_true hk2]) ?_
      refine wpc_reg ?_
      simp only [↓stU, stD, reduceEqDiff, ↓reduceIte, ↓stV, stW, Nat.reduceAdd, p2, p3, p4, p11, evQ_faddr, faddr_ptr, ld6_2 h2, lg2_1 tW, n1', hia, hld]
      exact hrow
    · have e : wL g L i = (nodeAt g i).weights := by unfold wL; rw [if_neg hk2]
      rw [e]
      refine wpc_non (by simp only [↓stU, stD, reduceEqDiff, ↓reduceIte, ↓stV, stW, Nat.reduceAdd, decide_eq_false hk2]) (wpc_skip ?_)
      simp only [↓stU, stD, reduceEqDiff, ↓reduceIte, ↓stV, stW, Nat.reduceAdd, p2, p3, p4, p11]
      exact hxw.same sVW
  clear p2 p3 p4 p10 p11
  rintro o ⟨F, inr⟩ W' ⟨rfl, q0, hWW, hws, p2, p3, p4, p11, p12⟩
  rw [hWW]
  clear hWW W'
  simp only at q0 hws p2 p3 p4 p11 p12
  subst q0
  generalize hp13 : tmpV 13 F = wv at hws
  generalize wL g L i = wl at *
  try simp only [↓stU, stD, reduceEqDiff, ↓reduceIte, ↓stV, stW, Nat.reduceAdd]
  -- the next node
  refine wsr ?_
  simp only [↓stU, stD, reduceEqDiff, ↓reduceIte, ↓stV, stW, Nat.reduceAdd, hp13]
  refine wpo_call ?_
  simp only [↓stU, stD, reduceEqDiff, ↓reduceIte, ↓stV, stW, Nat.reduceAdd]
  refine wpf_mono (xsum_spec H hws hsm) ?_
  rintro _ Z ⟨rfl, hZ⟩
  try simp only [↓stU, stD, reduceEqDiff, ↓reduceIte, ↓stV, stW, Nat.reduceAdd]
  have h2Z := (hZ.2 _ lxW).trans h2
  have hrd : wl.sum = ((wl.sum.toNat : Nat) : Int) := (Int.toNat_of_nonneg (by omega)).symm
  generalize hR : wl.sum.toNat = R at *
  have hpos : 0 < R := by omega
  have hrem := bin_rem_nat (.p .int) .i64 (t := s) (d := R) hpos
  have hml : s % R < R := Nat.mod_lt _ hpos
  have hcl : pickN wl ((s % R : Nat) : Int) < (nodeAt g i).next.length := by
    rw [← hwl]
    exact pickN_lt (by omega) (by omega)
  have lxZ : V.nx < Z.nx := Nat.lt_of_lt_of_le lxW hZ.1
  refine wpc_seq (wpc_mono (Q := fun o A' Z => o = .normal ∧ A'.inr = false ∧ Same W Z ∧ tmpV 3 A'.F = .ptr S.nx 0 ∧ tmpV 4 A'.F = .ptr S1.nx 0 ∧ tmpV 11 A'.F = pv ∧ tmpV 2 A'.F = .int .i64 (s : Int) ∧ tmpV 14 A'.F = .int .i64 (R : Int) ∧ ∃ i' : Nat, i < i' ∧ i' < g.nodes.length ∧ pathL g (decS b v L) (k + 1) i s = (i : Int) :: pathL g (decS b v L) k i' (s / R) ∧ tmpV 10 A'.F = .int .i64 (i' : Int)) (wpc_drd1 (fun _ => False) ?_) ?_)
  · intro Z5 z5
    simp only [↓stU, stD, reduceEqDiff, ↓reduceIte, ↓stV, stW, Nat.reduceAdd, p2, p12, hp13, evQ_faddr, isLoad_faddr, faddr_ptr, ld6_3 h2Z, lxZ, not_false_eq_true, sxa, hrd, hrem]
    refine runD_call0 rfl ?_
    simp only [↓stU, stD, reduceEqDiff, ↓reduceIte, ↓stV, stW, Nat.reduceAdd]
    refine wpf_mono (child_spec H (hws.same (hZ.trans z5)) hsm (by omega) (by omega)) ?_
    rintro _ Z6 ⟨rfl, z6⟩
    refine ⟨z6, ?_⟩
    have s6 := (hZ.trans z5).trans z6
    have hxa4 := hxaW.same hZ
    have ia := hxa4.iaddr hcl
    have la := hxa4.ld hcl
    obtain ⟨b1, o1, hp1, lb1⟩ := IsSl.place hxa4 hcl
    rw [hp1] at ia la
    obtain ⟨hr1, hr2⟩ := G.good.kids i hlt _ hcl
    simp only [↓stU, stD, reduceEqDiff, ↓reduceIte, ↓stV, stW, Nat.reduceAdd, natOf_cast, ia, la, lb1, not_false_eq_true]
    generalize (nodeAt g i).next.getD (pickN wl ((s % R : Nat) : Int)) 0 = c at *
    exact ⟨s6, by simp only [↓stU, stD, reduceEqDiff, ↓reduceIte, ↓stV, stW, Nat.reduceAdd, p3], by simp only [↓stU, stD, reduceEqDiff, ↓reduceIte, ↓stV, stW, Nat.reduceAdd, p4], by simp only [↓stU, stD, reduceEqDiff, ↓reduceIte, ↓stV, stW, Nat.reduceAdd, p11], by simp only [↓stU, stD, reduceEqDiff, ↓reduceIte, ↓stV, stW, Nat.reduceAdd, p2], c.toNat, by omega, by omega, hst, by (try simp only [↓stU, stD, reduceEqDiff, ↓reduceIte, ↓stV, stW, Nat.reduceAdd]); rw [Int.toNat_of_nonneg (by omega)]⟩
  clear p2 p3 p4 p11 p12 hp13 h2Z lxZ
  rintro o ⟨F, inr⟩ Z' ⟨rfl, q0, hZ', p3, p4, p11, p2, p14, i', hi1, hi2, hst', p10⟩
  clear hZ Z
  simp only at q0 p2 p3 p4 p10 p11 p14
  subst q0
  have hq := bin_quo_i (.p .int) (a := ((s : Nat) : Int)) (b := ((R : Nat) : Int)) (by omega) (by omega) (by omega)
  have hq' : ((s : Nat) : Int) / ((R : Nat) : Int) = ((s / R : Nat) : Int) := rfl
  rw [hq'] at hq
  have hdl : s / R ≤ s := Nat.div_le_self ..
  try simp only [↓stU, stD, reduceEqDiff, ↓reduceIte, ↓stV, stW, Nat.reduceAdd]
  refine wpc_seq (wpc_mono (Q := fun o A' Z => o = .normal ∧ A'.inr = false ∧ Same W Z ∧ tmpV 3 A'.F = .ptr S.nx 0 ∧ tmpV 4 A'.F = .ptr S1.nx 0 ∧ tmpV 11 A'.F = pv ∧ ∃ i' s' : Nat, i < i' ∧ i' < g.nodes.length ∧ s' ≤ 9223372036854775807 ∧ pathL g (decS b v L) (k + 1) i s = (i : Int) :: pathL g (decS b v L) k i' s' ∧ tmpV 2 A'.F = .int .i64 (s' : Int) ∧ tmpV 10 A'.F = .int .i64 (i' : Int)) (wpc_reg ?_) ?_)
  · simp only [↓stU, stD, reduceEqDiff, ↓reduceIte, ↓stV, stW, Nat.reduceAdd, p2, p14, hq]
    exact ⟨hZ', by simp only [↓stU, stD, reduceEqDiff, ↓reduceIte, ↓stV, stW, Nat.reduceAdd, p3], by simp only [↓stU, stD, reduceEqDiff, ↓reduceIte, ↓stV, stW, Nat.reduceAdd, p4], by simp only [↓stU, stD, reduceEqDiff, ↓reduceIte, ↓stV, stW, Nat.reduceAdd, p11], i', s / R, hi1, hi2, by omega, hst', by simp only [↓stU, stD, reduceEqDiff, ↓reduceIte, ↓stV, stW, Nat.reduceAdd], by simp only [↓stU, stD, reduceEqDiff, ↓reduceIte, ↓stV, stW, Nat.reduceAdd, p10]⟩
  clear p2 p3 p4 p10 p11 p14 hst' hi1 hi2 i'
  rintro o ⟨F, inr⟩ Z ⟨rfl, q0, hZ, p3, p4, p11, i', s', hi1, hi2, hs', hst, p2, p10⟩
  simp only at q0 p2 p3 p4 p10 p11
  subst q0
  try simp only [↓stU, stD, reduceEqDiff, ↓reduceIte, ↓stV, stW, Nat.reduceAdd]
  rw [hst] at htot
  have sVZ := sVW.trans hZ
  have outZ := hout.step sVZ
  refine wpc_reg ?_
  simp only [↓stU, stD, reduceEqDiff, ↓reduceIte, Nat.reduceAdd, p10, p11]
  refine wpo_al (evA_one (n := (i' : Int)) (k := .i64) (by simp only [↓stU, stD, reduceEqDiff, ↓reduceIte, Nat.reduceAdd])) ?_
  intro U u1 m1 g1
  have e1 : (p ++ [(i : Int)]).length = p.length + 1 := by simp
  have xU := (xV.trans sVZ).trans u1
  obtain ⟨pv', U', eA, gA, nA, rA⟩ := OutR.push (bytes := 8) (outZ.step u1) xU g1 (by rw [e1]; unfold room; omega) (by rw [e1]; unfold room; omega)
  refine wpo_x (fun call => by simp only [↓stU, stD, reduceEqDiff, ↓reduceIte, Nat.reduceAdd, evX_app]; exact eA) ?_
  simp only [↓stU, stD, reduceEqDiff, ↓reduceIte, Nat.reduceAdd]
  have hb : ∀ {c}, blkOf pv = some c → X.nx ≤ c := fun hc => (outZ.blk hc).1
  have keep : ∀ c, c < X.nx → U'.h.get c = U.h.get c := fun c hc => rA c (Nat.lt_of_lt_of_le hc xU.1) (fun e => by have := hb e; omega)
  have nU : X.nx ≤ U'.nx := by have := xU.1; omega
  exact ⟨k, by omega, rfl, ⟨Nat.le_trans sX.1 nU, fun c hc => (keep c (Nat.lt_of_lt_of_le hc sX.1)).trans (((hV.trans sVZ).trans u1).2 c hc)⟩, ⟨nU, fun c hc => (keep c hc).trans (xU.2 c hc)⟩, (keep _ lgX).trans (((sVZ.trans u1).2 _ lgV).trans cV), (keep _ ltX).trans (((sVZ.trans u1).2 _ ltV).trans tV), i', s', p ++ [(i : Int)], pv', hi2, by omega, hs', by rw [htot, List.append_assoc]; rfl, by rw [e1]; omega, gA, by first | (simp only [↓stU, stD, reduceEqDiff, ↓reduceIte, Nat.reduceAdd, p2]; done) | rfl | assumption, by first | (simp only [↓stU, stD, reduceEqDiff, ↓reduceIte, Nat.reduceAdd, p3]; done) | rfl | assumption, by first | (simp only [↓stU, stD, reduceEqDiff, ↓reduceIte, Nat.reduceAdd, p4]; done) | rfl | assumption, by first | (simp only [↓stU, stD, reduceEqDiff, ↓reduceIte, Nat.reduceAdd, p10]; done) | rfl | assumption, by first | (simp only [↓stU, stD, reduceEqDiff, ↓reduceIte, Nat.reduceAdd]; done) | rfl | assumption⟩
end Go.Ev.Gl

namespace Go.Ev.Gl
variable {fns : T AFn}

/-! ## A row, copied behind rows of one's own -/
noncomputable def rowP : List AO := [⟨(some 44),(.q (.faddr 1 (.t 7))),none,0⟩,
⟨(some 45),(.q (.ld false 1 (.t 44))),none,1⟩,
⟨(some 46),(.a (.bslice 3 1 0 [(.int .i64 (.ofNat 0))] [])),none,0⟩,
⟨(some 47),(.q (.faddr 1 (.t 4))),none,0⟩,
⟨(some 48),(.q (.ld false 1 (.t 47))),none,8⟩,
⟨(some 49),(.q (.mv (.t 8))),none,0⟩,
⟨(some 50),(.q (.iaddr (.slice 1) (.t 48) (.t 49))),none,56⟩,
⟨(some 51),(.q (.ld false 1 (.t 50))),none,120⟩,
⟨(some 52),(.x (.app 3 1 8 (.t 46) (.t 51))),none,252⟩,
⟨(some 53),(.a (.bslice 22 1 1 [.nilsl] [(0,(.t 52))])),none,508⟩]
noncomputable def rowX : List AO := [⟨(some 54),(.x (.app 22 1 24 (.t 45) (.t 53))),none,1023⟩,
⟨(some 55),(.q (.faddr 1 (.t 7))),none,2047⟩,
⟨none,(.x (.st 1 (.t 55) (.t 54))),none,4095⟩]
theorem evA_row {t : Nat} {z r : AV} {x : Opd} {F : Fr} {id : Nat} {S : St} {l : List Int} (h : IsSl .i64 S r l) (hx : x.val F = r) : evA (.bslice t 1 1 [z] [(0, x)]) F id = some (.sl id 0 1 1 false, .cells [r] false 0) := by
  show (osel (fillP (repeatL [z] 1) [(0 * 1, 1, x.val F)]) fun cs => some (AV.sl id 0 1 1 false, AB.cells cs false 0)) = _
  rw [hx]
  rcases h with ⟨_, rfl | rfl⟩ | ⟨b, off, cap, o, cs, rfl, _⟩ <;> rfl
def RowR (W : St) (F : Fr) (nb : Nat) (pv : AV) (l : List Int) (F' : Fr) (Z : St) (ps : List Pend) : Prop := ps = [⟨9, W.nx + 9, .cells [tmpV 52 F'] false 0⟩] ∧ Same W Z ∧ W.nx + 13 ≤ Z.nx ∧ (∀ j, j < 9 → tmpV j F' = tmpV j F) ∧ tmpV 45 F' = pv ∧ tmpV 53 F' = .sl (W.nx + 9) 0 1 1 false ∧ IsSl .i64 Z (tmpV 52 F') l ∧ ∀ c, blkOf (tmpV 52 F') = some c → W.nx ≤ c ∧ c ≠ W.nx + 9
set_option maxHeartbeats 4000000 in
theorem rowP_run {W Y : St} {F : Fr} {nb tb br qr i : Nat} {b1 b2 pv v a : AV} {l : List Int} (p7 : tmpV 7 F = .ptr nb 0) (p4 : tmpV 4 F = .ptr tb 0) (p8 : tmpV 8 F = .int .i64 (i : Int)) (hnb : W.h.get nb = some (.cells [b1, pv] false 0)) (htb : W.h.get tb = some (.cells [b2, v] false 0)) (lnb : nb < W.nx) (ltb : tb < W.nx) (hia : iaddrV (.slice 1) v i = some (.ptr br qr)) (hld : qLdV (.ptr br qr) false 1 W.h = some a) (lbr : br < W.nx) (ha : IsSl .i64 W a l) (hl : l.length ≤ 100000) (sv : sameV v v = true) (spv : sameV pv pv = true)
    (hY : Same W Y) (nY : Y.nx = W.nx + 13) : runD fns (fun _ => False) W.h W.nx rowP 0 F Y [] none (RowR W F nb pv l) := by
  have sa := IsSl.self ha
  unfold rowP
  simp only [↓stU, stD, reduceEqDiff, ↓reduceIte, ↓stV, stW, Nat.reduceAdd, p4, p7, p8, evQ_faddr, isLoad_faddr, faddr_ptr, lg2_1 hnb, lg2_1 htb, lnb, ltb, lbr, not_false_eq_true, sv, spv, sa, evA_none, natOf_cast, hia, hld]
  obtain ⟨U1, hU1⟩ : ∃ U : St, U = ⟨Y.h.set (W.nx + 2) (some (.cells [] false 0)), Y.nx⟩ := ⟨_, rfl⟩
  have sU1 : Same W U1 := by rw [hU1]; exact ⟨hY.1, fun c hc => by simp only; rw [T.get_set, if_neg (by omega)]; exact hY.2 c hc⟩
  have gU1 : U1.h.get (W.nx + 2) = some (.cells [] false 0) := by rw [hU1]; simp only; rw [T.get_set, if_pos rfl]
  have nU1 : U1.nx = W.nx + 13 := by rw [hU1]; exact nY
  obtain ⟨r1, V1, e1, i1, v1, k1⟩ := app_cp (bytes := 8) (E := Int1) (l := l) firm_int1 Nat.one_pos gU1 (by omega) (toG (ha.same sU1)) (by unfold room; omega) (by unfold room; omega)
  refine runD_app rfl (by rw [flush_one rfl]; simp only [↓stU, stD, reduceEqDiff, ↓reduceIte, ↓stV, stW, Nat.reduceAdd]; rw [← hU1]; exact e1) ?_ ?_
  · rw [flush_one rfl, ← hU1]
    exact ⟨v1.1, fun c hc _ => v1.2 c (by omega)⟩
  rw [flush_one rfl]
  have he := fun (F : Fr) (id : Nat) (h : tmpV 52 F = r1) => evA_row (t := 22) (z := .nilsl) (x := .t 52) (F := F) (id := id) (ofG i1) h
  simp only [↓stU, stD, reduceEqDiff, ↓reduceIte, ↓stV, stW, Nat.reduceAdd, he]
  refine ⟨by simp only [↓stU, stD, reduceEqDiff, ↓reduceIte, ↓stV, stW, Nat.reduceAdd], sU1.trans v1, by have := v1.1; omega, fun j hj => ?_, by simp only [↓stU, stD, reduceEqDiff, ↓reduceIte, ↓stV, stW, Nat.reduceAdd], by simp only [↓stU, stD, reduceEqDiff, ↓reduceIte, ↓stV, stW, Nat.reduceAdd], by simp only [↓stU, stD, reduceEqDiff, ↓reduceIte, ↓stV, stW, Nat.reduceAdd]; exact ofG i1, fun c hc => ?_⟩
  · have : j = 0 ∨ j = 1 ∨ j = 2 ∨ j = 3 ∨ j = 4 ∨ j = 5 ∨ j = 6 ∨ j = 7 ∨ j = 8 := by omega
    rcases this with rfl | rfl | rfl | rfl | rfl | rfl | rfl | rfl | rfl <;> simp only [↓stU, stD, reduceEqDiff, ↓reduceIte, ↓stV, stW, Nat.reduceAdd]
  · simp only [↓stU, stD, reduceEqDiff, ↓reduceIte, ↓stV, stW, Nat.reduceAdd] at hc
    rcases k1 c hc with h | h <;> omega
set_option maxHeartbeats 4000000 in
theorem rows_drw {ops : List AO} {S0 W : St} {F : Fr} {inr : Bool} {nb tb br qr i n : Nat} {b1 b2 pv v a : AV} {cs : List AV} {l : List Int} {Q : Out → Act' → St → Prop} (he : ops = rowP ++ rowX) (p7 : tmpV 7 F = .ptr nb 0) (p4 : tmpV 4 F = .ptr tb 0) (p8 : tmpV 8 F = .int .i64 (i : Int)) (hnb : W.h.get nb = some (.cells [b1, pv] false 0)) (htb : W.h.get tb = some (.cells [b2, v] false 0)) (lnb : nb < S0.nx) (ltb : tb < W.nx) (hia : iaddrV (.slice 1) v i = some (.ptr br qr)) (hld : qLdV (.ptr br qr) false 1 W.h = some a) (lbr : br < W.nx) (ha : IsSl .i64 W a l) (hl : l.length ≤ 100000) (sv : sameV v v = true)
    (hg : GrW 1 S0 W pv n cs) (hS : S0.nx ≤ W.nx) (hn : n ≤ 100000)
    (hQ : ∀ F' Z r pv', (∀ j, j < 9 → tmpV j F' = tmpV j F) → W.nx ≤ Z.nx → Z.h.get nb = some (.cells [b1, pv'] false 0) → (∀ c, c < W.nx → c ≠ nb → blkOf pv ≠ some c → Z.h.get c = W.h.get c) → IsSl .i64 Z r l → GrW 1 S0 Z pv' (n + 1) (cs ++ [r]) → (∀ c, blkOf r = some c → W.nx ≤ c ∧ blkOf pv' ≠ some c) → (∀ c, blkOf pv' = some c → W.nx ≤ c) → Q .normal ⟨F', inr⟩ Z) : wpc fns (.drw ops) ⟨F, inr⟩ W Q := by
  have hlen : ops.length = 13 := by rw [he]; rfl
  refine wpc_pre (K := 10) (R := RowR W F nb pv l) he rfl rfl (fun S1 s h n => rowP_run p7 p4 p8 hnb htb (by omega) ltb hia hld lbr ha hl sv hg.self s (by rw [n, hlen])) ?_
  rintro F' S' ps hs ls ⟨rfl, sZ, nZ, hk, p45, p53, i1, hbk⟩ hlast hld
  have p7' : tmpV 7 F' = .ptr nb 0 := (hk 7 (by omega)).trans p7
  generalize hr1 : tmpV 52 F' = r at i1 hbk
  have m1 : ∀ i, i < 10 → Nat.testBit 1023 i = true := by decide
  obtain ⟨U, hU⟩ : ∃ U : St, U = ⟨S'.h.set (W.nx + 9) (some (.cells [r] false 0)), S'.nx⟩ := ⟨_, rfl⟩
  have sU : Same W U := by rw [hU]; exact ⟨sZ.1, fun c hc => by simp only; rw [T.get_set, if_neg (by omega)]; exact sZ.2 c hc⟩
  have gU : U.h.get (W.nx + 9) = some (.cells [r] false 0) := by rw [hU]; simp only; rw [T.get_set, if_pos rfl]
  have nU : U.nx = S'.nx := by rw [hU]
  have iU : IsSl .i64 U r l := sl_move i1 (by omega) fun c hc => by
    rw [hU]
    simp only
    rw [T.get_set, if_neg (hbk c hc).2]
  have hbpv : ∀ {c}, blkOf pv = some c → S0.nx ≤ c ∧ c < W.nx := fun hc => ⟨(hg.blk hc).1, (hg.blk hc).2.1⟩
  have hgU : GrW 1 ⟨U.h, S0.nx⟩ U pv n cs := hg.move sU.1 fun c hc => sU.2 c (hbpv hc).2
  obtain ⟨pv', X, eA, gA, bA, nA, rA⟩ := GrW.push1 (bytes := 24) (x := r) hgU ⟨by show S0.nx ≤ U.nx; have := sU.1; omega, fun _ _ => rfl⟩ gU (by unfold room; omega) (by unfold room; omega)
  have nbX : X.h.get nb = some (.cells [b1, pv] false 0) := by
    rw [rA nb (by have := sU.1; omega) (fun e => by have := (hbpv e).1; omega)]
    exact (sU.2 nb (by omega)).trans hnb
  unfold rowX
  refine wpd_x (v := pv') (S1 := X) (hlast _ m1) (fun call => ?_) ?_
  · rw [flush_one (show Nat.testBit 1023 9 = true by decide), evX_app]
    simp only [val_t, p45, p53, hr1]
    rw [← hU]
    exact eA
  rw [flush_one (show Nat.testBit 1023 9 = true by decide)]
  simp only [wpd_qE, onSome_some, evQ_faddr, faddr_ptr, isLoad_faddr, bsel_false, val_t, flush_nil, tmpV_putF, p7', reduceEqDiff, ↓reduceIte, Nat.reduceAdd]
  have gAc : pv'.cells = some [pv'] := GrW.cells gA
  refine wpd_x (v := .undef) (S1 := ⟨X.h.set nb (some (.cells [b1, pv'] false 0)), X.nx⟩) (show Nat.testBit 4095 10 = true by decide) (fun call => ?_) ?_
  · rw [evX_st]
    simp only [val_t, tmpV_putF, reduceEqDiff, ↓reduceIte, flush_nil, gAc, osel_some]
    exact stc (cs := [b1, pv]) (p := 1) (S := X) nbX (by simp)
  rw [wpd_nil]
  have hbA : ∀ {c}, blkOf pv' = some c → c = U.nx := fun hc => by rw [bA] at hc; exact (Option.some.inj hc).symm
  have sUn := sU.1
  refine ⟨?_, ?_⟩
  · simp only [List.reverse_cons, List.append_assoc, List.singleton_append, List.cons_append, List.nil_append]
    exact hld _ _ _ m1
  · simp only [flush_nil, putF_none]
    have lowr : ∀ {c}, blkOf r = some c → c < U.nx := fun hc => by
      rcases iU with ⟨_, rfl | rfl⟩ | ⟨b, off, cap, o, cs, rfl, _, h3, _⟩
      · cases hc
      · cases hc
      · cases hc; exact h3
    refine hQ _ _ r pv' (fun j hj => ?_) (by show W.nx ≤ X.nx; omega) (by simp only; rw [T.get_set, if_pos rfl]) (fun c hc h1 h2 => ?_) ?_ ?_ (fun c hc => ⟨(hbk c hc).1, fun h => ?_⟩) (fun c hc => ?_)
    · rw [tmpV_putF, if_neg (by omega), tmpV_putF, if_neg (by omega)]
      exact hk j hj
    · simp only
      rw [T.get_set, if_neg h1, rA c (by omega) h2]
      exact sU.2 c hc
    · refine sl_move iU (by show U.nx ≤ X.nx; omega) fun c hc => ?_
      have h1 := (hbk c hc).1
      simp only
      rw [T.get_set, if_neg (by omega), rA c (lowr hc) (fun e => by have := (hbpv e).2; omega)]
    · refine GrW.move (S := X) (by exact gA) (Nat.le_refl _) fun c hc => ?_
      have := hbA hc
      simp only
      rw [T.get_set, if_neg (by omega)]
    · have := hbA h
      have := lowr hc
      omega
    · have := hbA hc
      omega
end Go.Ev.Gl

namespace Go.Ev.Gl
variable {fns : T AFn}

/-! ## DealWalks -/
/-- rows of one's own in a block of slices that grows -/
def RowsB (S0 X : St) (pv : AV) (cs : List AV) (A : List (List Int)) : Prop := cs.length = A.length ∧ ∀ j, j < A.length → ∃ r, cs[j]? = some r ∧ IsSl .i64 X r (A.getD j []) ∧ ∀ c, blkOf r = some c → S0.nx ≤ c ∧ blkOf pv ≠ some c
theorem sl_lowB {k : IntKind} {X : St} {v : AV} {l : List Int} {c : Nat} (h : IsSl k X v l) (hc : blkOf v = some c) : c < X.nx := by
  rcases h with ⟨_, rfl | rfl⟩ | ⟨b, off, cap, o, cs, rfl, _, h3, _⟩
  · cases hc
  · cases hc
  · cases hc; exact h3
theorem RowsB.push {S0 X Z : St} {pv pv' r : AV} {cs : List AV} {A : List (List Int)} {l : List Int} (h : RowsB S0 X pv cs A) (hX : S0.nx ≤ X.nx) (hn : X.nx ≤ Z.nx) (hk : ∀ c, c < X.nx → S0.nx ≤ c → blkOf pv ≠ some c → Z.h.get c = X.h.get c) (hr : IsSl .i64 Z r l) (hb : ∀ c, blkOf r = some c → X.nx ≤ c ∧ blkOf pv' ≠ some c) (hp : ∀ c, blkOf pv' = some c → X.nx ≤ c) : RowsB S0 Z pv' (cs ++ [r]) (A ++ [l]) := by
  refine ⟨by simp [h.1], fun j hj => ?_⟩
  rw [List.length_append, List.length_singleton] at hj
  rw [getD_appL]
  by_cases e : j = A.length
  · rw [if_pos e, e, ← h.1]
    exact ⟨r, by rw [List.getElem?_append_right (Nat.le_refl _), Nat.sub_self]; rfl, hr, fun c hc => ⟨Nat.le_trans hX (hb c hc).1, (hb c hc).2⟩⟩
  · rw [if_neg e]
    obtain ⟨r', h1, h2, h3⟩ := h.2 j (by omega)
    refine ⟨r', by rw [List.getElem?_append_left (by rw [h.1]; omega)]; exact h1, sl_move h2 hn fun c hc => hk c (sl_lowB h2 hc) (h3 c hc).1 (h3 c hc).2, fun c hc => ⟨(h3 c hc).1, fun e => ?_⟩⟩
    have := hp c e
    have := sl_lowB h2 hc
    omega
theorem RowsB.is {S0 X : St} {pv : AV} {n : Nat} {cs : List AV} {A : List (List Int)} (h : RowsB S0 X pv cs A) (hg : GrW 1 S0 X pv n cs) (hn : n = A.length) : IsSlG 1 SlE X pv A := by
  subst hn
  rcases hg with ⟨rfl, h0, _⟩ | ⟨b, rfl, _, h2, h3, _⟩
  · exact .inl ⟨List.length_eq_zero_iff.1 h0, .inl rfl⟩
  · refine .inr ⟨b, 0, A.length, true, cs, rfl, Nat.le_refl _, h2, by unfold cellsAt; rw [h3]; rfl, fun i l hi => ?_⟩
    have hlt := (List.getElem?_eq_some_iff.1 hi).1
    have e : A.getD i [] = l := by rw [List.getD_eq_getElem?_getD, hi]; rfl
    obtain ⟨r, h4, h5, _⟩ := h.2 i hlt
    rw [e] at h5
    refine ⟨[r], rfl, fun j x hj => ?_, r, rfl, h5⟩
    cases j with
    | zero =>
      cases hj
      rw [Nat.zero_add, Nat.mul_one]
      exact h4
    | succ j => simp at hj
theorem take_snoc {L : List (List Int)} {i : Nat} (h : i < L.length) : L.take (i + 1) = L.take i ++ [L.getD i []] := by
  rw [List.take_add_one, List.getElem?_eq_getElem h, List.getD_eq_getElem?_getD, List.getElem?_eq_getElem h]
  rfl
def WlI (S0 : St) (nb gb tb : Nat) (b s : Int) (L : List (List Int)) (k : Nat) (A : Act') (X : St) : Prop := A.inr = false ∧ S0.nx ≤ X.nx ∧ (∀ c, c < S0.nx → c ≠ nb → X.h.get c = S0.h.get c) ∧ ∃ i pv cs, i + k = L.length ∧ (∀ j, j < i → (L.getD j []).length ≤ 20) ∧ X.h.get nb = some (.cells [.int .i64 b, pv] false 0) ∧ GrW 1 S0 X pv i cs ∧ RowsB S0 X pv cs (L.take i) ∧ tmpV 2 A.F = .int .i64 s ∧ tmpV 3 A.F = .ptr gb 0 ∧ tmpV 4 A.F = .ptr tb 0 ∧ tmpV 7 A.F = .ptr nb 0 ∧ tmpV 8 A.F = .int .i64 (i : Int)
theorem WalkR34.i {S X : St} {r : AV} {g : PGame} {b : Int} {L : List (List Int)} {pr : Nat → Nat} {s : Int} (h : WalkR34 S g b L pr s r X) : Same S X ∧ ∃ x, r = .tup [x, .int .i64 (walkE g b L pr s)] ∧ IsSl .i64 X x (if walkE g b L pr s = 0 then tabL g b L s else []) := by
  obtain ⟨h1, x, rfl, h2, h3⟩ := h
  exact ⟨h1, x, rfl, isl_when h2 h3⟩
theorem walkE_zero {g : PGame} {b : Int} {L : List (List Int)} {pr : Nat → Nat} {s : Int} (h : walkE g b L pr s = 0) : fitE g b L = 0 := by
  by_cases h1 : sprE g b L pr = 0
  · exact sprE_zero h1
  · unfold walkE at h
    rw [if_pos h1] at h
    exact absurd h h1
theorem tab_len {S : St} {v : AV} {g : PGame} {b : Int} {L : List (List Int)} {pr : Nat → Nat} {s : Int} (H : Has fns) (hv : IsSlG 1 SlE S v L) : (if walkE g b L pr s = 0 then tabL g b L s else []).length ≤ 10000000 := by
  by_cases e : walkE g b L pr s = 0
  · rw [if_pos e]
    obtain ⟨h0, T⟩ := goodT_of (walkE_zero e)
    have G := goodK_of h0
    have h1 := (path_all (S := S) (D := decS b v L) (k := g.nodes.length) (i := 0) (s := s.toNat) H G (fun i hi hk => decS_h H G hv T hi hk) G.good.n1 (by omega)).2.1
    have h2 := G.good.n2
    unfold tabL
    rw [path_valS (w := v)]
    omega
  · rw [if_neg e]; simp
theorem buildT {F : Fr} {h : Ev.T AB} {b : Int} (h27 : tmpV 27 F = .int .i64 b) : evQ (.build [.int .i64 0, .nilsl] [(0, 1, .t 27)]) F h = some (.agg [.int .i64 b, .nilsl]) := by
  show (osel (fillP _ (partsV F [(0, 1, .t 27)])) fun cs => some (AV.agg cs)) = _
  simp only [partsV, show (Opd.t 27).val F = .int .i64 b from h27, fillP, cells_int, osel_some]
  rfl
set_option maxHeartbeats 8000000 in
theorem walks_spec {S : St} {nv iv v : AV} {g : PGame} {b s : Int} {L : List (List Int)} (H : Has fns) (hAw : ∀ S, wpf fns (.fn 32 [] []) [] S fun r S' => r = .bool true ∧ Same S S') (hn : IsSlG 6 NodeE S nv g.nodes) (hi : IsSlG 2 InfoE S iv g.infos) (hv : IsSlG 1 SlE S v L) (hs : s ≤ 9223372036854775807) :
    wpf fns (.fn 6 [] []) [.agg [.int .i64 g.players, nv, iv], .agg [.int .i64 b, v], .int .i64 s] S fun r S' => r = .bool true ∧ Same S S' := by
  refine wpf_fn H.f6 (by simp) ?_
  simp only [↓stU, stD, reduceEqDiff, ↓reduceIte, ↓stV, stW, Nat.reduceAdd]
  refine wsr ?_
  refine wpo_box (cs := [.int .i64 g.players, nv, iv]) rfl ?_
  intro S1 s1 n1 c1
  refine wpo_box (cs := [.int .i64 b, v]) rfl ?_
  intro S2 s2 n2 t2
  have c2 := (s2.2 _ (show S.nx < S1.nx by omega)).trans c1
  have s12 := s1.trans s2
  simp only [↓stU, stD, reduceEqDiff, ↓reduceIte, ↓stV, stW, Nat.reduceAdd]
  refine wss ?_
  simp only [↓stU, stD, reduceEqDiff, ↓reduceIte, ↓stV, stW, Nat.reduceAdd, lg3_a c2]
  refine wpo_call ?_
  simp only [↓stU, stD, reduceEqDiff, ↓reduceIte, ↓stV, stW, Nat.reduceAdd]
  refine wpf_mono (large_spec H (IsSlG.same (E := NodeE) firm_node hn s12)) ?_
  rintro _ S3 ⟨rfl, s3⟩
  have n3 := s3.1
  have c3 := (s3.2 _ (show S.nx < S2.nx by omega)).trans c2
  have t3 := (s3.2 _ (show S1.nx < S2.nx by omega)).trans t2
  have s13 := s12.trans s3
  have hvl := hv.len
  by_cases hb1 : largeG g
  · simp only [↓stU, stD, reduceEqDiff, ↓reduceIte, ↓stV, stW, Nat.reduceAdd, decide_eq_true hb1]
    refine wpc_yes (by simp only [↓stU, stD, reduceEqDiff, ↓reduceIte, ↓stV, stW, Nat.reduceAdd]) ?_
    refine wsr ?_
    simp only [↓stU, stD, reduceEqDiff, ↓reduceIte, ↓stV, stW, Nat.reduceAdd]
    refine wpo_call ?_
    simp only [↓stU, stD, reduceEqDiff, ↓reduceIte, ↓stV, stW, Nat.reduceAdd]
    refine wpf_mono (hAw _) ?_
    rintro _ S4 ⟨rfl, s4⟩
    try simp only [↓stU, stD, reduceEqDiff, ↓reduceIte, ↓stV, stW, Nat.reduceAdd]
    refine wpc_ret ?_
    simp only [↓stU, stD, reduceEqDiff, ↓reduceIte, ↓stV, stW, Nat.reduceAdd]
    exact s13.trans s4
  by_cases hb2 : 300 < L.length
  · simp only [↓stU, stD, reduceEqDiff, ↓reduceIte, ↓stV, stW, Nat.reduceAdd, decide_eq_false hb1, evQ_faddr, faddr_ptr, lg2_1 t3, hvl, Int.ofNat_eq_natCast]
    refine wpc_yes (by simp only [↓stU, stD, reduceEqDiff, ↓reduceIte, ↓stV, stW, Nat.reduceAdd, decide_eq_true (show ((L.length : Nat) : Int) > 300 by omega)]) ?_
    refine wsr ?_
    simp only [↓stU, stD, reduceEqDiff, ↓reduceIte, ↓stV, stW, Nat.reduceAdd]
    refine wpo_call ?_
    simp only [↓stU, stD, reduceEqDiff, ↓reduceIte, ↓stV, stW, Nat.reduceAdd]
    refine wpf_mono (hAw _) ?_
    rintro _ S4 ⟨rfl, s4⟩
    try simp only [↓stU, stD, reduceEqDiff, ↓reduceIte, ↓stV, stW, Nat.reduceAdd]
    refine wpc_ret ?_
    simp only [↓stU, stD, reduceEqDiff, ↓reduceIte, ↓stV, stW, Nat.reduceAdd]
    exact s13.trans s4
  have hln : g.nodes.length ≤ 100000 := by unfold largeG at hb1; omega
  obtain ⟨pr, hpr⟩ : ∃ pr : Nat → Nat, fitE g b L = 0 → ProdM (radM b) g pr := by
    by_cases h0 : formE g = 0
    · obtain ⟨pr, h⟩ := exists_prodM (radM b) (good_of h0)
      exact ⟨pr, fun _ => h⟩
    · exact ⟨fun _ => 1, fun h => absurd (goodT_of h).1 h0⟩
  simp only [↓stU, stD, reduceEqDiff, ↓reduceIte, ↓stV, stW, Nat.reduceAdd, decide_eq_false hb1, evQ_faddr, faddr_ptr, lg2_1 t3, hvl, Int.ofNat_eq_natCast]
  refine wpc_non (by simp only [↓stU, stD, reduceEqDiff, ↓reduceIte, ↓stV, stW, Nat.reduceAdd, decide_eq_false (show ¬ ((L.length : Nat) : Int) > 300 by omega)]) (wpc_skip ?_)
  try simp only [↓stU, stD, reduceEqDiff, ↓reduceIte, ↓stV, stW, Nat.reduceAdd]
  have hbt := fun (F : Fr) (h : Ev.T AB) (h27 : tmpV 27 F = .int .i64 b) => buildT (F := F) (h := h) h27
  have hib : isLoad (.build [.int .i64 0, .nilsl] [(0, 1, .t 27)]) = false := rfl
  refine wsr ?_
  simp only [↓stU, stD, reduceEqDiff, ↓reduceIte, Nat.reduceAdd, evQ_faddr, faddr_ptr, lg2_0 t3, hbt]
  refine wpo_alloc ?_
  intro S4 s4 n4 g4
  refine wpo_st (b := S3.nx) (cs' := [.int .i64 b, .nilsl]) (by simp only [↓stU, stD, reduceEqDiff, ↓reduceIte, Nat.reduceAdd]) (by simp only [↓stU, stD, reduceEqDiff, ↓reduceIte, Nat.reduceAdd]; exact cells_agg _) g4 rfl rfl ?_
  intro S0 s0 n0 g0
  simp only [↓stU, stD, reduceEqDiff, ↓reduceIte, Nat.reduceAdd]
  have s30 : Same S3 S0 := s0.same s4 (Nat.le_refl _)
  have sS0 := s13.trans s30
  have c0 := (s30.2 _ (show S.nx < S3.nx by omega)).trans c3
  have t0 := (s30.2 _ (show S1.nx < S3.nx by omega)).trans t3
  have l0 : S3.nx < S0.nx := by omega
  have nS := sS0.1
  have nS3 := s13.1
  clear s0 n0 g4 n4 s4 c3 t3 c2 t2 c1 s1 s2 s3 s13 S4
  refine wpc_seq (wpc_mono (Q := fun o A' X => (o = .normal ∧ A'.inr = false ∧ Same S X ∧ S0.nx ≤ X.nx ∧ X.h.get S.nx = some (.cells [.int .i64 g.players, nv, iv] false 0) ∧ X.h.get S1.nx = some (.cells [.int .i64 b, v] false 0) ∧ (∃ pv, X.h.get S3.nx = some (.cells [.int .i64 b, pv] false 0) ∧ IsSlG 1 SlE X pv L) ∧ (∀ x ∈ L, x.length ≤ 20) ∧ tmpV 2 A'.F = .int .i64 s ∧ tmpV 3 A'.F = .ptr S.nx 0 ∧ tmpV 4 A'.F = .ptr S1.nx 0 ∧ tmpV 7 A'.F = .ptr S3.nx 0) ∨ (o = .ret ∧ Same S X ∧ tmpV 6 A'.F = .bool true)) (wpc_seq (wpc_reg ?_)) ?_)
  · simp only [↓stU, stD, reduceEqDiff, ↓reduceIte, ↓stV, stW, Nat.reduceAdd]
    refine wpc_block (wpc_loop (WlI S0 S3.nx S.nx S1.nx b s L) ?_ L.length _ _ ⟨rfl, Nat.le_refl _, fun _ _ _ => rfl, 0, .nilsl, [], by omega, fun j hj => absurd hj (Nat.not_lt_zero j), g0, .inl ⟨rfl, rfl, rfl⟩, ⟨rfl, fun j hj => absurd hj (Nat.not_lt_zero j)⟩, by simp only [↓stU, stD, reduceEqDiff, ↓reduceIte, ↓stV, stW, Nat.reduceAdd], by simp only [↓stU, stD, reduceEqDiff, ↓reduceIte, ↓stV, stW, Nat.reduceAdd], by simp only [↓stU, stD, reduceEqDiff, ↓reduceIte, ↓stV, stW, Nat.reduceAdd], by simp only [↓stU, stD, reduceEqDiff, ↓reduceIte, ↓stV, stW, Nat.reduceAdd], by simp only [↓stU, stD, reduceEqDiff, ↓reduceIte, ↓stV, stW, Nat.reduceAdd]; try rfl⟩)
    rintro k ⟨F, inr⟩ X ⟨q0, nX, kX, i, pv, cs, hik, hsm, gX, hg, hR, p2, p3, p4, p7, p8⟩
    simp only at q0 p2 p3 p4 p7 p8
    subst q0
    have sX : Same S X := ⟨by omega, fun c hc => (kX c (by omega) (by omega)).trans (sS0.2 c hc)⟩
    have cX := (kX S.nx (by omega) (by omega)).trans c0
    have tX := (kX S1.nx (by omega) (by omega)).trans t0
    refine wss ?_
    simp only [↓stU, stD, reduceEqDiff, ↓reduceIte, ↓stV, stW, Nat.reduceAdd, p4, p8, evQ_faddr, faddr_ptr, lg2_1 tX, hvl, Int.ofNat_eq_natCast]
    by_cases hlt : i < L.length
    rotate_left
    · refine wpc_non (by simp only [↓stU, stD, reduceEqDiff, ↓reduceIte, ↓stV, stW, Nat.reduceAdd, decide_eq_false (show ¬ (i : Int) < ((L.length : Nat) : Int) by omega)]) (wpc_exit ?_)
      simp only [↓stU, stD, reduceEqDiff, ↓reduceIte, ↓stV, stW, Nat.reduceAdd]
      obtain rfl : i = L.length := by omega
      rw [List.take_length] at hR
      refine .inl ⟨sX, nX, cX, tX, ⟨pv, gX, hR.is hg rfl⟩, fun x hx => ?_, p2, p3, p4, p7⟩
      obtain ⟨j, hj, rfl⟩ := List.mem_iff_getElem.1 hx
      have := hsm j hj
      rwa [List.getD_eq_getElem?_getD, List.getElem?_eq_getElem hj] at this
    refine wpc_yes (by simp only [↓stU, stD, reduceEqDiff, ↓reduceIte, ↓stV, stW, Nat.reduceAdd, decide_eq_true (show (i : Int) < ((L.length : Nat) : Int) by omega)]) (wpc_skip ?_)
    try simp only [↓stU, stD, reduceEqDiff, ↓reduceIte, ↓stV, stW, Nat.reduceAdd]
    obtain ⟨_, br, qr, hia, lbr, _, ⟨a, rfl, hrow⟩, _, hlf⟩ := IsSlG.at (IsSlG.same (E := SlE) firm_sl hv sX) (by decide) (get_some hlt)
    have hld := hlf 0 a rfl
    rw [Nat.add_zero] at hld
    have w1 : IntKind.i64.wrap ((i : Int) + 1) = ((i + 1 : Nat) : Int) := by rw [wrap_i64 (by omega) (by omega)]; omega
    refine wpc_seq (wpc_block (wpc_seq (wpc_seq (wpc_reg ?_))))
    simp only [↓stU, stD, reduceEqDiff, ↓reduceIte, ↓stV, stW, Nat.reduceAdd, p4, p8, evQ_faddr, faddr_ptr, lg2_1 tX, natOf_cast, hia, hld, hrow.len, Int.ofNat_eq_natCast]
    by_cases h20 : 20 < (L.getD i []).length
    · refine wpc_yes (by simp only [↓stU, stD, reduceEqDiff, ↓reduceIte, ↓stV, stW, Nat.reduceAdd, decide_eq_true (show (((L.getD i []).length : Nat) : Int) > 20 by omega)]) ?_
      refine wsr ?_
      simp only [↓stU, stD, reduceEqDiff, ↓reduceIte, ↓stV, stW, Nat.reduceAdd]
      refine wpo_call ?_
      simp only [↓stU, stD, reduceEqDiff, ↓reduceIte, ↓stV, stW, Nat.reduceAdd]
      refine wpf_mono (hAw _) ?_
      rintro _ Y ⟨rfl, hY⟩
      try simp only [↓stU, stD, reduceEqDiff, ↓reduceIte, ↓stV, stW, Nat.reduceAdd]
      refine wpc_ret ?_
      simp only [↓stU, stD, reduceEqDiff, ↓reduceIte, ↓stV, stW, Nat.reduceAdd]
      exact .inr (sX.trans hY)
    refine wpc_non (by simp only [↓stU, stD, reduceEqDiff, ↓reduceIte, ↓stV, stW, Nat.reduceAdd, decide_eq_false (show ¬ (((L.getD i []).length : Nat) : Int) > 20 by omega)]) (wpc_skip ?_)
    try simp only [↓stU, stD, reduceEqDiff, ↓reduceIte, ↓stV, stW, Nat.reduceAdd]
    refine rows_drw (S0 := S0) (nb := S3.nx) (tb := S1.nx) (br := br) (qr := qr) (i := i) (n := i) (b1 := .int .i64 b) (b2 := .int .i64 b) (pv := pv) (v := v) (a := a) (cs := cs) (l := L.getD i []) rfl (by simp only [↓stU, stD, reduceEqDiff, ↓reduceIte, ↓stV, stW, Nat.reduceAdd, p7]) (by simp only [↓stU, stD, reduceEqDiff, ↓reduceIte, ↓stV, stW, Nat.reduceAdd, p4]) (by simp only [↓stU, stD, reduceEqDiff, ↓reduceIte, ↓stV, stW, Nat.reduceAdd, p8]) gX tX l0 (by omega) hia hld lbr hrow (by omega) (IsSlG.self hv) hg nX (by omega) ?_
    intro F' Z r pv' hk nZ gZ kZ hr hgZ hbr hbp
    have q2 := hk 2 (by omega)
    have q3 := hk 3 (by omega)
    have q4 := hk 4 (by omega)
    have q7 := hk 7 (by omega)
    have q8 := hk 8 (by omega)
    simp only [↓stU, stD, reduceEqDiff, ↓reduceIte, ↓stV, stW, Nat.reduceAdd, p2, p3, p4, p7, p8] at q2 q3 q4 q7 q8
    have hbpv : ∀ {c}, blkOf pv = some c → S0.nx ≤ c := fun hc => (hg.blk hc).1
    have hRZ := hR.push (l := L.getD i []) nX nZ (fun c h1 h2 h3 => kZ c h1 (by omega) h3) hr hbr hbp
    rw [← take_snoc hlt] at hRZ
    try simp only [↓stU, stD, reduceEqDiff, ↓reduceIte, ↓stV, stW, Nat.reduceAdd]
    refine wpc_reg ?_
    simp only [↓stU, stD, reduceEqDiff, ↓reduceIte, ↓stV, stW, Nat.reduceAdd, q8, w1]
    refine ⟨k - 1, by omega, rfl, by omega, fun c hc hne => (kZ c (by omega) hne (fun e => by have := hbpv e; omega)).trans (kX c hc hne), i + 1, pv', _, by omega, fun j hj => ?_, gZ, hgZ, hRZ, by simp only [↓stU, stD, reduceEqDiff, ↓reduceIte, ↓stV, stW, Nat.reduceAdd, q2], by simp only [↓stU, stD, reduceEqDiff, ↓reduceIte, ↓stV, stW, Nat.reduceAdd, q3], by simp only [↓stU, stD, reduceEqDiff, ↓reduceIte, ↓stV, stW, Nat.reduceAdd, q4], by simp only [↓stU, stD, reduceEqDiff, ↓reduceIte, ↓stV, stW, Nat.reduceAdd, q7], by simp only [↓stU, stD, reduceEqDiff, ↓reduceIte, ↓stV, stW, Nat.reduceAdd]⟩
    by_cases e : j = i
    · subst e; omega
    · exact hsm j (by omega)
  rintro o ⟨F, inr⟩ S7 (⟨rfl, q0, sS7, n7, gg7, gt7, ⟨pv, g7, hd⟩, h20, p2, p3, p4, p7⟩ | ⟨rfl, hX, p6⟩)
  rotate_left
  · simp only at p6
    simp only [↓stU, stD, reduceEqDiff, ↓reduceIte, ↓stV, stW, Nat.reduceAdd, p6]
    exact hX
  simp only at q0 p2 p3 p4 p7
  subst q0
  have lb7 : S3.nx < S7.nx := by omega
  have lg7 : S.nx < S7.nx := by omega
  have lt7 : S1.nx < S7.nx := by omega
  have gn := fun {X} (h : Same S X) => IsSlG.same (E := NodeE) firm_node hn h
  have gi := fun {X} (h : Same S X) => IsSlG.same (E := InfoE) firm_info hi h
  have gv := fun {X} (h : Same S X) => IsSlG.same (E := SlE) firm_sl hv h
  have gd := fun {X} (h : Same S7 X) => IsSlG.same (E := SlE) firm_sl hd h
  try simp only [↓stU, stD, reduceEqDiff, ↓reduceIte, ↓stV, stW, Nat.reduceAdd]
  refine wsr ?_
  simp only [↓stU, stD, reduceEqDiff, ↓reduceIte, ↓stV, stW, Nat.reduceAdd, p3, p7, lg3_a gg7, lg2_a g7]
  refine wpo_call ?_
  simp only [↓stU, stD, reduceEqDiff, ↓reduceIte, ↓stV, stW, Nat.reduceAdd]
  refine wpf_mono (spreadP_spec (pr := pr) H (gn sS7) (gi sS7) hd hln (by omega) hpr) ?_
  rintro _ T1 ⟨t1, rfl⟩
  simp only [↓stU, stD, reduceEqDiff, ↓reduceIte, ↓stV, stW, Nat.reduceAdd, ex0, ex1]
  have gg8 := (t1.2 _ lg7).trans gg7
  have gt8 := (t1.2 _ lt7).trans gt7
  refine wsr ?_
  simp only [↓stU, stD, reduceEqDiff, ↓reduceIte, ↓stV, stW, Nat.reduceAdd, p3, p4, lg3_a gg8, lg2_a gt8]
  refine wpo_call ?_
  simp only [↓stU, stD, reduceEqDiff, ↓reduceIte, ↓stV, stW, Nat.reduceAdd]
  refine wpf_mono (xspread_spec (pr := pr) H (gn (sS7.trans t1)) (gi (sS7.trans t1)) (gv (sS7.trans t1)) hln (by omega) hpr) ?_
  rintro _ T2 ⟨t2, rfl⟩
  simp only [↓stU, stD, reduceEqDiff, ↓reduceIte, ↓stV, stW, Nat.reduceAdd, ex0, ex1]
  have t12 := t1.trans t2
  have gg9 := (t12.2 _ lg7).trans gg7
  have g9 := (t12.2 _ lb7).trans g7
  refine wsr ?_
  simp only [↓stU, stD, reduceEqDiff, ↓reduceIte, ↓stV, stW, Nat.reduceAdd, p2, p3, p7, lg3_a gg9, lg2_a g9]
  refine wpo_call ?_
  simp only [↓stU, stD, reduceEqDiff, ↓reduceIte, ↓stV, stW, Nat.reduceAdd]
  refine wpf_mono (walkP_spec (pr := pr) H (gn (sS7.trans t12)) (gi (sS7.trans t12)) (gd t12) hln (by omega) hs hpr) ?_
  intro r3 T3 h3
  obtain ⟨t3, x3, rfl, i3⟩ := h3.i
  simp only [↓stU, stD, reduceEqDiff, ↓reduceIte, ↓stV, stW, Nat.reduceAdd, ex0, ex1]
  have t13 := t12.trans t3
  have gg10 := (t13.2 _ lg7).trans gg7
  have gt10 := (t13.2 _ lt7).trans gt7
  refine wsr ?_
  simp only [↓stU, stD, reduceEqDiff, ↓reduceIte, ↓stV, stW, Nat.reduceAdd, p2, p3, p4, lg3_a gg10, lg2_a gt10]
  refine wpo_call ?_
  simp only [↓stU, stD, reduceEqDiff, ↓reduceIte, ↓stV, stW, Nat.reduceAdd]
  refine wpf_mono (xwalkP_spec (pr := pr) H (gn (sS7.trans t13)) (gi (sS7.trans t13)) (gv (sS7.trans t13)) hln (by omega) hs hpr) ?_
  intro r4 T4 h4
  obtain ⟨t4, x4, rfl, i4⟩ := h4.i
  simp only [↓stU, stD, reduceEqDiff, ↓reduceIte, ↓stV, stW, Nat.reduceAdd, ex0, ex1]
  have t14 := t13.trans t4
  have hbl := tab_len (g := g) (b := b) (pr := pr) (s := s) H hv
  refine wsr ?_
  simp only [↓stU, stD, reduceEqDiff, ↓reduceIte, ↓stV, stW, Nat.reduceAdd]
  refine wpo_call ?_
  simp only [↓stU, stD, reduceEqDiff, ↓reduceIte, ↓stV, stW, Nat.reduceAdd]
  refine wpf_mono (alikeI_spec H (i3.same t4) i4 hbl) ?_
  rintro _ T5 ⟨rfl, t5⟩
  rw [decide_eq_true rfl]
  have t15 := t14.trans t5
  have g11 := (t15.2 _ lb7).trans g7
  have gt11 := (t15.2 _ lt7).trans gt7
  simp only [↓stU, stD, reduceEqDiff, ↓reduceIte, ↓stV, stW, Nat.reduceAdd, decide_true, p4, p7, evQ_faddr, faddr_ptr, lg2_0 g11, lg2_0 gt11, lg2_1 g11, lg2_1 gt11]
  refine wpo_call ?_
  simp only [↓stU, stD, reduceEqDiff, ↓reduceIte, ↓stV, stW, Nat.reduceAdd]
  refine wpf_mono (alikeL_spec H (gd t15) (gv (sS7.trans t15)) (by omega) (fun x hx => by have := h20 x hx; omega)) ?_
  rintro _ T6 ⟨rfl, t6⟩
  rw [decide_eq_true rfl]
  try simp only [↓stU, stD, reduceEqDiff, ↓reduceIte, ↓stV, stW, Nat.reduceAdd]
  refine wpo_call ?_
  simp only [↓stU, stD, reduceEqDiff, ↓reduceIte, ↓stV, stW, Nat.reduceAdd]
  refine wpf_mono (hAw _) ?_
  rintro _ T7 ⟨rfl, t7⟩
  try simp only [↓stU, stD, reduceEqDiff, ↓reduceIte, ↓stV, stW, Nat.reduceAdd]
  refine wpc_ret ?_
  try simp only [↓stU, stD, reduceEqDiff, ↓reduceIte, ↓stV, stW, Nat.reduceAdd]
  exact ((sS7.trans t15).trans t6).trans t7
end Go.Ev.Gl

namespace Go.Ev.Gl

/-! ## A table as an argument -/
abbrev ET1 : St → List AV → (List (List Int) × Unit) → Prop := ConsE (SlOf 1 (EInts .i64)) NoE
abbrev ETab : St → List AV → (Int × List (List Int) × Unit) → Prop := ConsE (IntE .i64) ET1
theorem table_is {S : St} {avs : List AV} {a : Int × List (List Int) × Unit} (h : ETab S avs a) : ∃ v, ∃ b : Int, ∃ L : List (List Int), avs = [.int .i64 b, v] ∧ IsSlG 1 SlE S v L := by
  obtain ⟨_, _, rfl, ⟨rfl, _⟩, _, _, rfl, h1, rfl⟩ := h
  obtain ⟨v1, rfl, i1⟩ := SlOf.is h1
  exact ⟨v1, a.1, a.2.1.map id, rfl, IsSlG.conv (fun e x h => ints_is h) i1⟩
section
variable {P : Program} {σ : Env} {S : St} {w : World}
/-- a table as an argument -/
theorem arg_table {t : TypeId} {H : Type} {enc : TypeId × Value → H} {base : Nat} {spare : Nat → Bool} {held : Bool} {fuel : Nat} {v : Value} {x : DataW H × List MemPlace} (hR : Rep P σ S w) (hn : NoOwn S) (hf : Fresh S) (hG : P.globals.size ≤ S.nx) (hL : Lays P t ETab) (h : DataW.trod enc P w base spare held fuel t v.cells.toList = some x) (hW : ∀ n ∈ DataW.weights P t x.1, n ≤ 140737488355328) :
    ∃ σ' S' tv, ∃ b : Int, ∃ L : List (List Int), Added P σ S w σ' S' ∧ Rv P σ' (.agg [.int .i64 b, tv]) v ∧ IsSlG 1 SlE S' tv L ∧ S.nx ≤ S'.nx := by
  obtain ⟨σ', S', avs, a, hA, hr, h1, hE, hnx⟩ := hL H enc σ S w base spare held fuel _ x hR hn hf hG h hW
  obtain ⟨tv, b, L, rfl, i1⟩ := table_is hE
  refine ⟨σ', S', tv, b, L, hA, ?_, i1, hnx⟩
  have hl := hr.length
  rw [agg_of (v := v) (n := 2) (by decide) (by rw [hl]; rfl)]
  simp only [Rv]
  exact ⟨_, rfl, hr, h1⟩
theorem lays_table {tt tl ts e : TypeId} {ft : Array Field} (ht : P.underlying tt = some (.struct ft)) (hl : P.underlying tl = some (.slice ts)) (hs : P.underlying ts = some (.slice e)) (he : P.underlying e = some (.int .i64))
    (ce : P.cellsOf e = 1) (cs : P.cellsOf ts = 1) (cl : P.cellsOf tl = 1) (ct : P.cellsOf tt = 2) (be : 8 ≤ P.bytesOf e) (bs : 8 ≤ P.bytesOf ts)
    (tst : ft.toList.map (·.type) = [e, tl]) (ot : ∀ (i : Nat) (f : Field), ft[i]? = some f → f.offset = i) : Lays P tt ETab := by
  have Li := lays_int he
  have Ls := lays_ints hs he ce be
  have Ll : Lays P tl (SlOf 1 (EInts .i64)) := lays_slice hl cs (by decide) (by omega) Ls firm_ints
  refine lays_struct ht tst (fun i f h => ?_) (by simp [ct, ce, cl]) (laysF_cons (E := IntE .i64) (R := ET1) Li firm_int (laysF_cons (E := SlOf 1 (EInts .i64)) (R := NoE) Ll (Ev.firm_sl (E := EInts .i64) firm_ints) laysF_nil))
  rw [ot i f h]
  have hlt : i < 2 := by
    have := (Array.getElem?_eq_some_iff.1 h).1
    have h6 := congrArg List.length tst
    simp only [List.length_map, Array.length_toList, List.length_cons, List.length_nil] at h6
    omega
  match i, hlt with
  | 0, _ => simp
  | 1, _ => simp [ce]
end
end Go.Ev.Gl
