import Derived.Test.YtoojnpjgnnpllaaGl8
open Nat renaming reduceEqDiff → rE, reduceAdd → rA
set_option maxHeartbeats 16000000
set_option linter.unusedSimpArgs false
set_option linter.unusedVariables false
namespace Go.Ev.Gl
variable {fns : T eJ}
theorem iE.same {S S' : St} {wb plb szb : Nat} {pv nv iv : AV} {g : bF} {R Z : List Int} (h : iE S wb plb szb pv nv iv g R Z) (hs : Same S S') : iE S' wb plb szb pv nv iv g R Z :=
 ⟨h.w.same hs, (hs.2 _ h.bp).trans h.gp, (hs.2 _ h.bz).trans h.gz, h.lp, h.lz, Ae h.bp hs.1, Ae h.bz hs.1⟩
def aJB (fns : Ev.T eJ) (S : St) (nv iv mv : AV) (g : bF) (m : List Int) (ok : Prop) (P : St → St → AV → AV → Prop) : Prop :=
 dF g = 0 → m.length = g.nodes.length → zQ m g.nodes.length → ¬ aFz m → ∀ (S0 : St) (wb plb szb : Nat) (pv : AV) (T : List cE) (Z : List Int), Same S S0 → fK g = some T → T.length = g.nodes.length → bO .i64 S0 pv (T.map (·.1)) → iE S0 wb plb szb pv nv iv g (kC g) Z →
  iM fns (.fn 116 [] []) [.ptr wb 0, mv] S0 fun r S'' => Same S0 S'' ∧ ∃ x y t, r = .tup [.agg [x, y], .bool t] ∧ (t = true ↔ ok) ∧ (t = true → P S0 S'' x y)
noncomputable def oL (g : bF) (m : List Int) (ok : Prop) : Int := if dF g ≠ 0 then dF g else lD g.nodes.length m ok
theorem yC {n : Nat} {m : List Int} {ok : Prop} (h : lD n m ok = 0) : m.length = n ∧ zQ m n ∧ ¬ aFz m ∧ ok := by
 unfold lD at h
 split at h
 ·exact absurd h (by decide)
 ·rename_i h1
  split at h
  ·exact absurd h (by decide)
  ·rename_i h2
   split at h
   ·exact absurd h (by decide)
   ·rename_i h3
    split at h
    ·rename_i h4
     exact ⟨Es.1 h1, Classical.not_not.1 h2, h3, h4⟩
    ·exact absurd h (by decide)
noncomputable def tU (g : bF) (a b : List Int) (oka okb : Prop) : Int := if oL g a oka ≠ 0 then oL g a oka else lD g.nodes.length b okb
def aMV (S' : St) (v : AV) (g : bF) (a b : List Int) (e : Int) : Prop := (e ≠ 0 → v = .nilsl) ∧ (e = 0 → bO .i64 S' v (jG a b))
abbrev aBG (P : St → St → AV → AV → Prop) : Prop := ∀ {S0 S1 S2 : St} {x y : AV}, P S0 S1 x y → S1.nx ≤ S2.nx → (∀ c, S0.nx ≤ c → c < S1.nx → S2.h.get c = S1.h.get c) → P S0 S2 x y
theorem aDl {S : St} {nv iv av bv : AV} {g : bF} {a b : List Int} {oka okb : Prop} {P P' : St → St → AV → AV → Prop} (H : Has fns) (hP : aBG P) (hP' : aBG P') (hn : aM 6 cL S nv g.nodes) (hi : aM 2 dB S iv g.infos) (ha : bO .i64 S av a) (hb : bO .i64 S bv b) (hln : g.nodes.length ≤ 100000) (ia : aJB fns S nv iv av g a oka P) (ib : aJB fns S nv iv bv g b okb P') :
  iM fns (.fn 17 [] []) [.agg [.int .i64 g.players, nv, iv], av, bv] S fun r S' => Same S S' ∧ ∃ v, r = .tup [v, .int .i64 (tU g a b oka okb)] ∧ aMV S' v g a b (tU g a b oka okb) := by
 refine cV H.f17 (by simp) ?_
 simp only [↓sU,sD,rE,↓reduceIte,rA]
 refine cF ?_
 refine eQ (by simp only [↓sU,sD,rE,↓reduceIte,rA]; exact bK _) ?_
 intro S1 s1 n1 c1
 simp only [↓sU,sD,rE,↓reduceIte,rA]
 refine cF ?_
 simp only [↓sU,sD,rE,↓reduceIte,rA, jF c1]
 refine bJ ?_
 simp only [↓sU,sD,rE,↓reduceIte,rA]
 refine aW (zE H (aM.same (E := cL) cB hn s1) (aM.same (E := dB) cQ hi s1) hln) ?_
 rintro _ X ⟨hX, p, rfl, hok⟩
 have sX := s1.trans hX
 simp only [↓sU,sD,rE,↓reduceIte,rA, vE, vD]
 refine jH ?_
 simp only [↓sU,sD,rE,↓reduceIte,rA]
 by_cases h0 : dF g = 0
 rotate_left
 ·have hE : tU g a b oka okb = dF g := by unfold tU oL; rw [if_pos h0, if_pos h0]
  rw [hE]
  refine aY (by simp only [↓sU,sD,rE,↓reduceIte,rA, Ad (show dF g ≠ 0 from h0)]) ?_
  refine cF ?_
  simp only [↓sU,sD,rE,↓reduceIte,rA]
  refine bD ?_
  simp only [↓sU,sD,rE,↓reduceIte,rA]
  exact ⟨sX, _, rfl, fun _ => rfl, fun h => absurd h h0⟩
 have hC : oL g a oka = lD g.nodes.length a oka := by unfold oL; rw [if_neg (fun h => h h0)]
 refine aT (by simp only [↓sU,sD,rE,↓reduceIte,rA, Aa (show ¬ dF g ≠ 0 from fun h => h h0)]) (aN ?_)
 try simp only [↓sU,sD,rE,↓reduceIte,rA]
 obtain ⟨wb, plb, szb, pv, T, Z, rfl, _, hT, hTl, hpv, hB⟩ := hok h0
 have hnX := aM.same (E := cL) cB hn sX
 refine jH ?_
 simp only [↓sU,sD,rE,↓reduceIte,rA]
 refine bJ ?_
 simp only [↓sU,sD,rE,↓reduceIte,rA]
 refine aW (qQ (P := P) (ok := oka) H hP hB.w hnX (ha.same sX) hln fun h1 h2 h3 S' hS' => ia h0 h1 h2 h3 S' wb plb szb pv T Z (sX.trans hS') hT hTl (hpv.same hS') (hB.same hS')) ?_
 rintro _ Y ⟨hY, x, y, rfl, _⟩
 have sY := sX.trans hY
 simp only [↓sU,sD,rE,↓reduceIte,rA, vE, vD]
 refine cF ?_
 simp only [↓sU,sD,rE,↓reduceIte,rA]
 by_cases ha0 : lD g.nodes.length a oka = 0
 rotate_left
 ·have hE : tU g a b oka okb = lD g.nodes.length a oka := by unfold tU; rw [hC, if_pos ha0]
  rw [hE]
  refine aY (by simp only [↓sU,sD,rE,↓reduceIte,rA, Ad (show lD g.nodes.length a oka ≠ 0 from ha0)]) ?_
  refine cF ?_
  simp only [↓sU,sD,rE,↓reduceIte,rA]
  refine bD ?_
  simp only [↓sU,sD,rE,↓reduceIte,rA]
  exact ⟨sY, _, rfl, fun _ => rfl, fun h => absurd h ha0⟩
 have hE : tU g a b oka okb = lD g.nodes.length b okb := by unfold tU; rw [hC, if_neg (fun h => h ha0)]
 rw [hE]
 refine aT (by simp only [↓sU,sD,rE,↓reduceIte,rA, Aa (show ¬ lD g.nodes.length a oka ≠ 0 from fun h => h ha0)]) (aN ?_)
 try simp only [↓sU,sD,rE,↓reduceIte,rA]
 refine jH ?_
 simp only [↓sU,sD,rE,↓reduceIte,rA]
 refine bJ ?_
 simp only [↓sU,sD,rE,↓reduceIte,rA]
 refine aW (qQ (P := P') (ok := okb) H hP' (hB.same hY).w (aM.same (E := cL) cB hn sY) (hb.same sY) hln fun h1 h2 h3 S' hS' => ib h0 h1 h2 h3 S' wb plb szb pv T Z (sY.trans hS') hT hTl (hpv.same (hY.trans hS')) (hB.same (hY.trans hS'))) ?_
 rintro _ W ⟨hW, x2, y2, rfl, _⟩
 have sW := sY.trans hW
 simp only [↓sU,sD,rE,↓reduceIte,rA, vE, vD]
 refine cF ?_
 simp only [↓sU,sD,rE,↓reduceIte,rA]
 by_cases hb0 : lD g.nodes.length b okb = 0
 rotate_left
 ·refine aY (by simp only [↓sU,sD,rE,↓reduceIte,rA, Ad (show lD g.nodes.length b okb ≠ 0 from hb0)]) ?_
  refine cF ?_
  simp only [↓sU,sD,rE,↓reduceIte,rA]
  refine bD ?_
  simp only [↓sU,sD,rE,↓reduceIte,rA]
  exact ⟨sW, _, rfl, fun _ => rfl, fun h => absurd h hb0⟩
 refine aT (by simp only [↓sU,sD,rE,↓reduceIte,rA, Aa (show ¬ lD g.nodes.length b okb ≠ 0 from fun h => h hb0)]) (aN ?_)
 try simp only [↓sU,sD,rE,↓reduceIte,rA]
 rw [hb0]
 refine cF ?_
 simp only [↓sU,sD,rE,↓reduceIte,rA]
 refine bJ ?_
 simp only [↓sU,sD,rE,↓reduceIte,rA]
 refine aW (aHd H (ha.same sW) (hb.same sW) (by have := (yC ha0).1; omega) (by rw [(yC hb0).1]; exact (yC ha0).2.1)) ?_
 rintro v V ⟨hv, hV⟩
 try simp only [↓sU,sD,rE,↓reduceIte,rA]
 refine bD ?_
 simp only [↓sU,sD,rE,↓reduceIte,rA]
 exact ⟨sW.trans hV, _, rfl, fun h => absurd rfl h, fun _ => hv.is⟩
theorem aN6 {h : Ev.T AB} {b : Nat} {x y : AV} {o : Bool} {s : Nat} (hb : h.get b = some (.cells [x, y] o s)) : fH (.ptr b (0 + 0)) false 1 h = some x := ldc hb rfl
theorem aOp {h : Ev.T AB} {b : Nat} {x y : AV} {o : Bool} {s : Nat} (hb : h.get b = some (.cells [x, y] o s)) : fH (.ptr b (0 + 1)) false 1 h = some y := ldc hb rfl
theorem aF2 {S : St} {nv iv mv : AV} {g : bF} {m : List Int} {ok : Prop} {P : St → St → AV → AV → Prop} (H : Has fns) (hP : aBG P) (hn : aM 6 cL S nv g.nodes) (hi : aM 2 dB S iv g.infos) (hm : bO .i64 S mv m) (hln : g.nodes.length ≤ 100000) (himg : aJB fns S nv iv mv g m ok P) :
  iM fns (.fn 21 [] []) [.agg [.int .i64 g.players, nv, iv], mv] S fun r S' => Same S S' ∧ ∃ x y, r = .tup [x, .int .i64 (oL g m ok)] ∧ (oL g m ok ≠ 0 → x = .nilsl) ∧ (oL g m ok = 0 → ∃ S0, S.nx ≤ S0.nx ∧ P S0 S' x y) := by
 refine cV H.f21 (by simp) ?_
 simp only [↓sU,sD,rE,↓reduceIte,rA]
 refine cF ?_
 refine eQ (by simp only [↓sU,sD,rE,↓reduceIte,rA]; exact bK _) ?_
 intro S1 s1 n1 c1
 simp only [↓sU,sD,rE,↓reduceIte,rA]
 refine cF ?_
 simp only [↓sU,sD,rE,↓reduceIte,rA, jF c1]
 refine bJ ?_
 simp only [↓sU,sD,rE,↓reduceIte,rA]
 refine aW (zE H (aM.same (E := cL) cB hn s1) (aM.same (E := dB) cQ hi s1) hln) ?_
 rintro _ X ⟨hX, p, rfl, hok⟩
 have sX := s1.trans hX
 simp only [↓sU,sD,rE,↓reduceIte,rA, vE, vD]
 refine jH ?_
 simp only [↓sU,sD,rE,↓reduceIte,rA]
 by_cases h0 : dF g = 0
 rotate_left
 ·have hE : oL g m ok = dF g := by unfold oL; rw [if_pos h0]
  rw [hE]
  refine aY (by simp only [↓sU,sD,rE,↓reduceIte,rA, Ad (show dF g ≠ 0 from h0)]) ?_
  refine cF ?_
  simp only [↓sU,sD,rE,↓reduceIte,rA]
  refine bD ?_
  simp only [↓sU,sD,rE,↓reduceIte,rA]
  exact ⟨sX, .nilsl, .nilsl, rfl, fun _ => rfl, fun h => absurd h h0⟩
 have hC : oL g m ok = lD g.nodes.length m ok := by unfold oL; rw [if_neg (fun h => h h0)]
 rw [hC]
 refine aT (by simp only [↓sU,sD,rE,↓reduceIte,rA, Aa (show ¬ dF g ≠ 0 from fun h => h h0)]) (aN ?_)
 try simp only [↓sU,sD,rE,↓reduceIte,rA]
 obtain ⟨wb, plb, szb, pv, T, Z, rfl, _, hT, hTl, hpv, hB⟩ := hok h0
 refine cF ?_
 simp only [↓aH,aJ,rE,↓reduceIte, rA]
 refine bJ ?_
 simp only [↓aH,aJ,rE,↓reduceIte, rA]
 refine aW (qQ (P := P) (ok := ok) H hP hB.w (aM.same (E := cL) cB hn sX) (hm.same sX) hln fun h1 h2 h3 S' hS' => himg h0 h1 h2 h3 S' wb plb szb pv T Z (sX.trans hS') hT hTl (hpv.same hS') (hB.same hS')) ?_
 rintro _ Y ⟨hY, x, y, rfl, hr0, hr1⟩
 have sY := sX.trans hY
 simp only [↓aH,aJ,rE,↓reduceIte, rA, vE, vD]
 refine dC ?_
 intro Y1 y1 k1 e1
 refine dU (b := Y.nx) (by simp only [↓aH,aJ,rE,↓reduceIte, rA]) (by simp only [↓aH,aJ,rE,↓reduceIte, rA]; exact bK _) e1 rfl rfl ?_
 intro Y2 y2 k2 e2
 simp only [↓aH,aJ,rE,↓reduceIte, rA]
 have sY2 : Same Y Y2 := y2.same y1 (Af _)
 refine cF ?_
 simp only [↓aH,aJ,rE,↓reduceIte, rA, aA, aB, aN6 e2]
 refine bD ?_
 simp only [↓aH,aJ,rE,↓reduceIte, rA]
 refine ⟨sY.trans sY2, x, y, rfl, fun h => (hr1 h).1, fun h => ?_⟩
 obtain ⟨S0, a, b⟩ := hr0 h
 exact ⟨S0, Al sX.1 a, hP b sY2.1 fun c _ hc => sY2.2 c hc⟩
theorem aCT {S : St} {nv iv mv : AV} {g : bF} {m : List Int} {ok : Prop} {P : St → St → AV → AV → Prop} (H : Has fns) (hP : aBG P) (hn : aM 6 cL S nv g.nodes) (hi : aM 2 dB S iv g.infos) (hm : bO .i64 S mv m) (hln : g.nodes.length ≤ 100000) (himg : aJB fns S nv iv mv g m ok P) :
  iM fns (.fn 22 [] []) [.agg [.int .i64 g.players, nv, iv], mv] S fun r S' => Same S S' ∧ ∃ x y, r = .tup [y, .int .i64 (oL g m ok)] ∧ (oL g m ok ≠ 0 → y = .nilsl) ∧ (oL g m ok = 0 → ∃ S0, S.nx ≤ S0.nx ∧ P S0 S' x y) := by
 refine cV H.f22 (by simp) ?_
 simp only [↓sU,sD,rE,↓reduceIte,rA]
 refine cF ?_
 refine eQ (by simp only [↓sU,sD,rE,↓reduceIte,rA]; exact bK _) ?_
 intro S1 s1 n1 c1
 simp only [↓sU,sD,rE,↓reduceIte,rA]
 refine cF ?_
 simp only [↓sU,sD,rE,↓reduceIte,rA, jF c1]
 refine bJ ?_
 simp only [↓sU,sD,rE,↓reduceIte,rA]
 refine aW (zE H (aM.same (E := cL) cB hn s1) (aM.same (E := dB) cQ hi s1) hln) ?_
 rintro _ X ⟨hX, p, rfl, hok⟩
 have sX := s1.trans hX
 simp only [↓sU,sD,rE,↓reduceIte,rA, vE, vD]
 refine jH ?_
 simp only [↓sU,sD,rE,↓reduceIte,rA]
 by_cases h0 : dF g = 0
 rotate_left
 ·have hE : oL g m ok = dF g := by unfold oL; rw [if_pos h0]
  rw [hE]
  refine aY (by simp only [↓sU,sD,rE,↓reduceIte,rA, Ad (show dF g ≠ 0 from h0)]) ?_
  refine cF ?_
  simp only [↓sU,sD,rE,↓reduceIte,rA]
  refine bD ?_
  simp only [↓sU,sD,rE,↓reduceIte,rA]
  exact ⟨sX, .nilsl, .nilsl, rfl, fun _ => rfl, fun h => absurd h h0⟩
 have hC : oL g m ok = lD g.nodes.length m ok := by unfold oL; rw [if_neg (fun h => h h0)]
 rw [hC]
 refine aT (by simp only [↓sU,sD,rE,↓reduceIte,rA, Aa (show ¬ dF g ≠ 0 from fun h => h h0)]) (aN ?_)
 try simp only [↓sU,sD,rE,↓reduceIte,rA]
 obtain ⟨wb, plb, szb, pv, T, Z, rfl, _, hT, hTl, hpv, hB⟩ := hok h0
 refine cF ?_
 simp only [↓aH,aJ,rE,↓reduceIte, rA]
 refine bJ ?_
 simp only [↓aH,aJ,rE,↓reduceIte, rA]
 refine aW (qQ (P := P) (ok := ok) H hP hB.w (aM.same (E := cL) cB hn sX) (hm.same sX) hln fun h1 h2 h3 S' hS' => himg h0 h1 h2 h3 S' wb plb szb pv T Z (sX.trans hS') hT hTl (hpv.same hS') (hB.same hS')) ?_
 rintro _ Y ⟨hY, x, y, rfl, hr0, hr1⟩
 have sY := sX.trans hY
 simp only [↓aH,aJ,rE,↓reduceIte, rA, vE, vD]
 refine dC ?_
 intro Y1 y1 k1 e1
 refine dU (b := Y.nx) (by simp only [↓aH,aJ,rE,↓reduceIte, rA]) (by simp only [↓aH,aJ,rE,↓reduceIte, rA]; exact bK _) e1 rfl rfl ?_
 intro Y2 y2 k2 e2
 simp only [↓aH,aJ,rE,↓reduceIte, rA]
 have sY2 : Same Y Y2 := y2.same y1 (Af _)
 refine cF ?_
 simp only [↓aH,aJ,rE,↓reduceIte, rA, aA, aB, aOp e2]
 refine bD ?_
 simp only [↓aH,aJ,rE,↓reduceIte, rA]
 refine ⟨sY.trans sY2, x, y, rfl, fun h => (hr1 h).2, fun h => ?_⟩
 obtain ⟨S0, a, b⟩ := hr0 h
 exact ⟨S0, Al sX.1 a, hP b sY2.1 fun c _ hc => sY2.2 c hc⟩
def nodeAt (g : bF) (i : Nat) : cM := g.nodes.getD i ⟨0, 0, 0, [], [], []⟩
def eK (m : List Int) (i : Nat) : Nat := (m.getD i 0).toNat
def fC (g : bF) (m : List Int) (i k : Nat) : Int := oM (nodeAt g (eK m i)).next 0 (m.getD ((nodeAt g i).next.getD k 0).toNat 0)
structure lG (g : bF) (m : List Int) : Prop where
 root : m.getD 0 0 = 0
 like : ∀ i, i < g.nodes.length → (nodeAt g i).kind = (nodeAt g (eK m i)).kind ∧ (nodeAt g i).next.length = (nodeAt g (eK m i)).next.length ∧ (nodeAt g i).pay = (nodeAt g (eK m i)).pay ∧ (nodeAt g i).player = (nodeAt g (eK m i)).player
 kid : ∀ i k, i < g.nodes.length → k < (nodeAt g i).next.length → 0 ≤ fC g m i k
 weigh : ∀ i k, i < g.nodes.length → k < (nodeAt g i).next.length → (nodeAt g i).kind = 1 → (nodeAt g i).weights.getD k 0 = (nodeAt g (eK m i)).weights.getD (fC g m i k).toNat 0
 info : ∀ i j, i < g.nodes.length → j < g.nodes.length → (nodeAt g i).kind = 2 → (nodeAt g j).kind = 2 → (nodeAt g i).info = (nodeAt g j).info → (nodeAt g (eK m i)).info = (nodeAt g (eK m j)).info ∧ ∀ k, k < (nodeAt g i).next.length → fC g m i k = fC g m j k
 inj : ∀ i j, i < g.nodes.length → j < g.nodes.length → (nodeAt g i).kind = 2 → (nodeAt g j).kind = 2 → (nodeAt g (eK m i)).info = (nodeAt g (eK m j)).info → (nodeAt g i).info = (nodeAt g j).info
def fN (g : bF) (s : Nat) : Nat := jW g.nodes 0 s - 1
def imgI (g : bF) (m : List Int) : List Int := (List.range g.infos.length).map fun s => (nodeAt g (eK m (fN g s))).info
def imgA (g : bF) (m : List Int) : List (List Int) := (List.range g.infos.length).map fun s => (List.range (nodeAt g (fN g s)).next.length).map fun k => fC g m (fN g s) k
theorem uB {g : bF} {i : Nat} {x : cM} (h : g.nodes[i]? = some x) : nodeAt g i = x := by unfold nodeAt; rw [Ac, h]; rfl
theorem dI {g : bF} {i : Nat} (h : i < g.nodes.length) : g.nodes[i]? = some (nodeAt g i) := by unfold nodeAt; rw [Ac, Ab h]; rfl
theorem iA (g : bF) (i : Nat) : dN g i = (nodeAt g i).next := by
 unfold dN nodeAt
 rw [Ac]
 cases g.nodes[i]? <;> rfl
theorem aCP {i : Nat} : ∀ {l : List cM} {s : Nat}, jW l s i ≠ 0 → ∃ j x, l[j]? = some x ∧ jW l s i = s + j + 1 ∧ x.kind = 2 ∧ x.info = (i : Int)
 | [], s, h => absurd rfl h
 | x :: l, s, h => by
  simp only [jW] at h ⊢
  by_cases hx : x.kind = 2 ∧ x.info = (i : Int)
  ·rw [if_pos hx]
   exact ⟨0, x, rfl, rfl, hx.1, hx.2⟩
  ·rw [if_neg hx] at h ⊢
   obtain ⟨j, y, h1, h2, h3, h4⟩ := aCP h
   exact ⟨j + 1, y, by rw [Ch]; exact h1, by rw [h2]; omega, h3, h4⟩
theorem aIc {ps : Int} {ni : Nat} {x : cM} (h : iG ps ni x = 0) (hp : ps ≤ 4) : x.pay.length ≤ 4 := by
 unfold iG at h
 split at h
 ·split at h
  ·cases h
  ·rename_i hb
   unfold pO at hb
   omega
 ·split at h
  ·split at h
   ·cases h
   ·rename_i hb
    unfold tN at hb
    omega
  ·split at h
   ·split at h
    ·cases h
    ·rename_i hb
     unfold qV at hb
     omega
   ·cases h
structure dT (g : bF) : Prop where
 n1 : 0 < g.nodes.length
 n2 : g.nodes.length ≤ 2000
 ni : g.infos.length ≤ 200
 nxt : ∀ i, i < g.nodes.length → (nodeAt g i).next.length ≤ 1000
 pay : ∀ i, i < g.nodes.length → (nodeAt g i).pay.length ≤ 4
 wts : ∀ i, i < g.nodes.length → (nodeAt g i).kind = 1 → (nodeAt g i).weights.length = (nodeAt g i).next.length
 inf : ∀ i, i < g.nodes.length → (nodeAt g i).kind = 2 → 0 ≤ (nodeAt g i).info ∧ (nodeAt g i).info < g.infos.length ∧ (infoAt g (nodeAt g i).info).actions = (((nodeAt g i).next.length : Nat) : Int)
 fst : ∀ s, s < g.infos.length → fN g s < g.nodes.length ∧ (nodeAt g (fN g s)).kind = 2 ∧ (nodeAt g (fN g s)).info = (s : Int)
 walk : ∃ T, fK g = some T ∧ T.length = g.nodes.length ∧ WF (dN g) 0 (-1) T
theorem jA {g : bF} (h : dF g = 0) : dT g := by
 unfold dF at h
 split at h
 ·cases h
 rename_i hb
 split at h
 ·rename_i h1; exact absurd h h1
 rename_i hN
 have hN := Es.1 hN
 cases hW : fK g with
 | none => rw [hW] at h; cases h
 | some T =>
  rw [hW] at h
  simp only at h
  split at h
  ·cases h
  rename_i hT
  split at h
  ·cases h
  unfold wU at h
  split at h
  ·cases h
  rename_i hmis
  split at h
  ·cases h
  rename_i hfst
  unfold pJ at hb
  have hmem : ∀ i, i < g.nodes.length → nodeAt g i ∈ g.nodes := fun i hi => Bx (dI hi)
  refine ⟨by omega, by omega, by omega, fun i hi => aCr (jM hN _ (hmem i hi)), fun i hi => aIc (jM hN _ (hmem i hi)) (by omega), fun i hi hk => ?_, fun i hi hk => ?_, fun s hs => ?_, T, hW, by omega, ?_⟩
  ·have := jM hN _ (hmem i hi)
   unfold iG at this
   rw [if_pos hk] at this
   split at this
   ·cases this
   ·rename_i hc
    unfold pO at hc
    omega
  ·obtain ⟨a, b⟩ := aCk (jM hN _ (hmem i hi)) hk
   refine ⟨a, b, Decidable.byContradiction fun hne => hmis ⟨_, hmem i hi, hk, fun hh => hne hh.2⟩⟩
  ·have hne : jW g.nodes 0 s ≠ 0 := fun e => hfst (by
    unfold jE
    exact Dr.2 ⟨s, List.mem_range.2 hs, by rw [e]; rfl⟩)
   obtain ⟨j, x, h1, h2, h3, h4⟩ := aCP hne
   have e : fN g s = j := by unfold fN; omega
   rw [e, uB h1]
   exact ⟨(Ai.1 h1).1, h3, h4⟩
  ·unfold fK at hW
   exact kR hW
def aB8 (g : bF) (m : List Int) (i : Nat) : Prop := (nodeAt g i).kind = (nodeAt g (eK m i)).kind ∧ (nodeAt g i).next.length = (nodeAt g (eK m i)).next.length ∧ (nodeAt g i).pay = (nodeAt g (eK m i)).pay ∧ (nodeAt g i).player = (nodeAt g (eK m i)).player
def aA8 (g : bF) (m : List Int) (i k : Nat) : Prop := (nodeAt g i).kind = 1 → (nodeAt g i).weights.getD k 0 = (nodeAt g (eK m i)).weights.getD (fC g m i k).toNat 0
structure Seen (g : bF) (m : List Int) (V : Nat → Prop) (W : Nat → Nat → Prop) (I : List Int) (A : List (List Int)) : Prop where
 li : I.length = g.infos.length
 la : A.length = g.infos.length
 ls : ∀ s, s < g.infos.length → (((A.getD s []).length : Nat) : Int) = (infoAt g (s : Int)).actions
 iv : ∀ j, j < g.nodes.length → V j → (nodeAt g j).kind = 2 → I.getD (nodeAt g j).info.toNat 0 = (nodeAt g (eK m j)).info
 iw : ∀ s, s < g.infos.length → 0 ≤ I.getD s 0 → ∃ j, j < g.nodes.length ∧ V j ∧ (nodeAt g j).kind = 2 ∧ (nodeAt g j).info = (s : Int)
 lk : ∀ j, j < g.nodes.length → V j → aB8 g m j
 kd : ∀ j k, j < g.nodes.length → k < (nodeAt g j).next.length → W j k → 0 ≤ fC g m j k ∧ aA8 g m j k ∧ ((nodeAt g j).kind = 2 → (A.getD (nodeAt g j).info.toNat []).getD k 0 = fC g m j k)
structure rN (g : bF) (m : List Int) : Prop where
 len : m.length = g.nodes.length
 inn : zQ m g.nodes.length
section
variable {g : bF} {m : List Int} {V V' : Nat → Prop} {W W' : Nat → Nat → Prop} {I F : List Int} {A : List (List Int)}
theorem rN.at (h : rN g m) {i : Nat} (hi : i < g.nodes.length) : m.getD i 0 = ((eK m i : Nat) : Int) ∧ eK m i < g.nodes.length := by
 have hl : i < m.length := by rw [h.len]; exact hi
 have hmem : m.getD i 0 ∈ m := by rw [Ac, Ab hl]; exact Bt _
 have := h.inn _ hmem
 unfold eK
 omega
theorem Seen.congr (h : Seen g m V W I A) (hV : ∀ j, j < g.nodes.length → (V j ↔ V' j)) (hW : ∀ j k, j < g.nodes.length → k < (nodeAt g j).next.length → W' j k → W j k) : Seen g m V' W' I A :=
 ⟨h.li, h.la, h.ls, fun j hj hv => h.iv j hj ((hV j hj).2 hv), fun s hs h0 => by obtain ⟨j, a, b, c⟩ := h.iw s hs h0; exact ⟨j, a, (hV j a).1 b, c⟩, fun j hj hv => h.lk j hj ((hV j hj).2 hv), fun j k hj hk hw => h.kd j k hj hk (hW j k hj hk hw)⟩
theorem lC {l : List Int} {n j : Nat} {x : Int} (hn : n < l.length) : (l.set n x).getD j 0 = if n = j then x else l.getD j 0 := by
 rw [Ac, Di]
 split
 ·rfl
 ·rw [Ac]
theorem pQ {l : List (List Int)} {n j : Nat} {x : List Int} (hn : n < l.length) : (l.set n x).getD j [] = if n = j then x else l.getD j [] := by
 rw [Ac, Di]
 split
 ·rfl
 ·rw [Ac]
theorem qA (G : dT g) (M : rN g m) {i : Nat} (hi : i < g.nodes.length) (hl : aB8 g m i) (hk : (nodeAt g i).kind = 2) : 0 ≤ (nodeAt g (eK m i)).info ∧ (nodeAt g (eK m i)).info < g.infos.length := by
 have := G.inf (eK m i) (M.at hi).2 (by rw [← hl.1]; exact hk)
 exact ⟨this.1, this.2.1⟩
theorem Seen.node (h : Seen g m V W I A) {i : Nat} (hl : aB8 g m i) (hk : (nodeAt g i).kind ≠ 2) : Seen g m (fun j => V j ∨ j = i) W I A :=
 ⟨h.li, h.la, h.ls, fun j hj hv hk' => by
  rcases hv with hv | rfl
  ·exact h.iv j hj hv hk'
  ·exact absurd hk' hk, fun s hs h0 => by obtain ⟨j, a, b, c⟩ := h.iw s hs h0; exact ⟨j, a, .inl b, c⟩, fun j hj hv => by
  rcases hv with hv | rfl
  ·exact h.lk j hj hv
  ·exact hl, h.kd⟩
theorem Seen.nodeM (G : dT g) (M : rN g m) (h : Seen g m V W I A) {i : Nat} (hi : i < g.nodes.length) (hl : aB8 g m i) (hk : (nodeAt g i).kind = 2) (hI : 0 ≤ I.getD (nodeAt g i).info.toNat 0 → I.getD (nodeAt g i).info.toNat 0 = (nodeAt g (eK m i)).info) : Seen g m (fun j => V j ∨ j = i) W (I.set (nodeAt g i).info.toNat (nodeAt g (eK m i)).info) A := by
 obtain ⟨a1, a2, a3⟩ := G.inf i hi hk
 have hlt : (nodeAt g i).info.toNat < I.length := by rw [h.li]; omega
 refine ⟨by rw [Au]; exact h.li, h.la, h.ls, fun j hj hv hk' => ?_, fun s hs h0 => ?_, fun j hj hv => ?_, h.kd⟩
 ·rw [lC hlt]
  obtain ⟨b1, b2, b3⟩ := G.inf j hj hk'
  rcases hv with hv | rfl
  ·have := h.iv j hj hv hk'
   split
   ·rename_i e
    have e' : (nodeAt g j).info = (nodeAt g i).info := by omega
    rw [e'] at this
    have := hI (by rw [this]; exact (qA G M hj (h.lk j hj hv) hk').1)
    omega
   ·exact this
  ·rw [if_pos rfl]
 ·rw [lC hlt] at h0
  split at h0
  ·rename_i e
   exact ⟨i, hi, .inr rfl, hk, by omega⟩
  ·obtain ⟨j, a, b, c⟩ := h.iw s hs h0
   exact ⟨j, a, .inl b, c⟩
 ·rcases hv with hv | rfl
  ·exact h.lk j hj hv
  ·exact hl
theorem Seen.kid (h : Seen g m V W I A) {i k : Nat} (h0 : 0 ≤ fC g m i k) (hw : aA8 g m i k) (hk : (nodeAt g i).kind ≠ 2) : Seen g m V (fun j k' => W j k' ∨ (j = i ∧ k' = k)) I A :=
 ⟨h.li, h.la, h.ls, h.iv, h.iw, h.lk, fun j k' hj hk' hv => by
  rcases hv with hv | ⟨rfl, rfl⟩
  ·exact h.kd j k' hj hk' hv
  ·exact ⟨h0, hw, fun e => absurd e hk⟩⟩
theorem Seen.kidM (G : dT g) (h : Seen g m V W I A) {i k : Nat} (hi : i < g.nodes.length) (hkl : k < (nodeAt g i).next.length) (h0 : 0 ≤ fC g m i k) (hw : aA8 g m i k) (hk : (nodeAt g i).kind = 2)
  (hA : ∀ j, j < g.nodes.length → W j k → (nodeAt g j).kind = 2 → (nodeAt g j).info = (nodeAt g i).info → (A.getD (nodeAt g i).info.toNat []).getD k 0 = fC g m i k) :
  Seen g m V (fun j k' => W j k' ∨ (j = i ∧ k' = k)) I (A.set (nodeAt g i).info.toNat ((A.getD (nodeAt g i).info.toNat []).set k (fC g m i k))) := by
 obtain ⟨a1, a2, a3⟩ := G.inf i hi hk
 have hlt : (nodeAt g i).info.toNat < A.length := by rw [h.la]; omega
 have hls := h.ls (nodeAt g i).info.toNat (by omega)
 rw [show (((nodeAt g i).info.toNat : Nat) : Int) = (nodeAt g i).info by omega, a3] at hls
 refine ⟨h.li, by rw [Au]; exact h.la, fun s hs => ?_, h.iv, h.iw, h.lk, fun j k' hj hk' hv => ?_⟩
 ·rw [pQ hlt]
  split
  ·rename_i e
   rw [Au, e]
   exact h.ls s hs
  ·exact h.ls s hs
 ·have key : (nodeAt g j).kind = 2 → ((A.set (nodeAt g i).info.toNat ((A.getD (nodeAt g i).info.toNat []).set k (fC g m i k))).getD (nodeAt g j).info.toNat []).getD k' 0 = if (nodeAt g j).info = (nodeAt g i).info ∧ k = k' then fC g m i k else (A.getD (nodeAt g j).info.toNat []).getD k' 0 := fun hkj => by
   obtain ⟨b1, b2, b3⟩ := G.inf j hj hkj
   rw [pQ hlt]
   by_cases e : (nodeAt g j).info = (nodeAt g i).info
   ·rw [if_pos (by rw [e]), lC (by omega), e]
    by_cases e2 : k = k'
    ·rw [if_pos e2, if_pos ⟨rfl, e2⟩]
    ·rw [if_neg e2, if_neg (fun h => e2 h.2)]
   ·rw [if_neg (by omega), if_neg (fun h => e h.1)]
  rcases hv with hv | ⟨rfl, rfl⟩
  ·obtain ⟨c1, c2, c3⟩ := h.kd j k' hj hk' hv
   refine ⟨c1, c2, fun hkj => ?_⟩
   rw [key hkj]
   split
   ·rename_i e
    obtain ⟨e1, rfl⟩ := e
    have := c3 hkj
    rw [← hA j hj hv hkj e1, ← e1]
    exact this
   ·exact c3 hkj
  ·exact ⟨h0, hw, fun hkj => by rw [key hkj, if_pos ⟨rfl, rfl⟩]⟩
theorem aKs {i : Nat} (hi : i < g.nodes.length) (h : ¬ aB8 g m i) : ¬ lG g m := fun a => h (a.like i hi)
theorem aLr {i k : Nat} (hi : i < g.nodes.length) (hk : k < (nodeAt g i).next.length) (h : ¬ 0 ≤ fC g m i k) : ¬ lG g m := fun a => h (a.kid i k hi hk)
theorem aIS {i k : Nat} (hi : i < g.nodes.length) (hk : k < (nodeAt g i).next.length) (h : ¬ aA8 g m i k) : ¬ lG g m := fun a => h (a.weigh i k hi hk)
theorem Seen.no_info (h : Seen g m V W I A) (G : dT g) {i : Nat} (hi : i < g.nodes.length) (hk : (nodeAt g i).kind = 2) (h0 : 0 ≤ I.getD (nodeAt g i).info.toNat 0) (h1 : I.getD (nodeAt g i).info.toNat 0 ≠ (nodeAt g (eK m i)).info) : ¬ lG g m := fun a => by
 obtain ⟨a1, a2, a3⟩ := G.inf i hi hk
 obtain ⟨j, b1, b2, b3, b4⟩ := h.iw _ (by omega) h0
 have e : (nodeAt g j).info = (nodeAt g i).info := by omega
 have := h.iv j b1 b2 b3
 rw [e] at this
 exact h1 (this.trans (a.info j i b1 hi b3 hk e).1)
theorem Seen.no_act (h : Seen g m V W I A) (G : dT g) {i j k : Nat} (hi : i < g.nodes.length) (hj : j < g.nodes.length) (hk : (nodeAt g i).kind = 2) (hkj : (nodeAt g j).kind = 2) (e : (nodeAt g j).info = (nodeAt g i).info) (hkl : k < (nodeAt g i).next.length) (hW : W j k) (h1 : (A.getD (nodeAt g i).info.toNat []).getD k 0 ≠ fC g m i k) : ¬ lG g m := fun a => by
 have a3 := (G.inf i hi hk).2.2
 have b3 := (G.inf j hj hkj).2.2
 rw [e, a3] at b3
 have := (h.kd j k hj (by omega) hW).2.2 hkj
 rw [e] at this
 exact h1 (this.trans ((a.info j i hj hi hkj hk e).2 k (by omega)))
theorem Seen.auto (h : Seen g m (fun _ => True) (fun _ _ => True) I A) (G : dT g) (root : m.getD 0 0 = 0) (inj : ∀ i j, i < g.nodes.length → j < g.nodes.length → (nodeAt g i).kind = 2 → (nodeAt g j).kind = 2 → (nodeAt g (eK m i)).info = (nodeAt g (eK m j)).info → (nodeAt g i).info = (nodeAt g j).info) : lG g m := by
 refine ⟨root, fun i hi => h.lk i hi trivial, fun i k hi hk => (h.kd i k hi hk trivial).1, fun i k hi hk => (h.kd i k hi hk trivial).2.1, fun i j hi hj hki hkj e => ⟨?_, fun k hk => ?_⟩, inj⟩
 ·rw [← h.iv i hi trivial hki, ← h.iv j hj trivial hkj, e]
 ·have a3 := (G.inf i hi hki).2.2
  have b3 := (G.inf j hj hkj).2.2
  rw [← e, a3] at b3
  rw [← (h.kd i k hi hk trivial).2.2 hki, ← (h.kd j k hj (by omega) trivial).2.2 hkj, e]
theorem Seen.imgI (h : Seen g m (fun _ => True) W I A) (G : dT g) : I = imgI g m := by
 refine aEW (by rw [h.li]; simp [Gl.imgI]) fun s hs => ?_
 have hs : s < g.infos.length := by simpa [Gl.imgI] using hs
 obtain ⟨f1, f2, f3⟩ := G.fst s hs
 have := h.iv _ f1 trivial f2
 rw [f3] at this
 rw [show ((s : Int)).toNat = s by omega] at this
 rw [this]
 unfold Gl.imgI
 rw [Ac, Bc, Dh hs]
 rfl
theorem Seen.imgA (h : Seen g m V (fun _ _ => True) I A) (G : dT g) : A = imgA g m := by
 refine List.ext_getElem? fun s => ?_
 by_cases hs : s < g.infos.length
 ·obtain ⟨f1, f2, f3⟩ := G.fst s hs
  have a3 := (G.inf _ f1 f2).2.2
  have hl := h.ls s hs
  rw [f3] at a3
  unfold Gl.imgA
  rw [Bc, Dh hs, Ab (show s < A.length by rw [h.la]; exact hs)]
  have hA : A[s]'(by rw [h.la]; exact hs) = A.getD s [] := by rw [Ac, Ab (show s < A.length by rw [h.la]; exact hs)]; rfl
  rw [hA]
  show some _ = some _
  congr 1
  refine aEW (by simp only [Av, Cy]; omega) fun k hk => ?_
  have hk : k < (nodeAt g (fN g s)).next.length := by simpa using hk
  have := (h.kd _ k f1 hk trivial).2.2 f2
  rw [f3, show ((s : Int)).toNat = s by omega] at this
  rw [this, Ac, Bc, Dh hk]
  rfl
 ·rw [Bl (by rw [h.la]; omega), Bl (by simp [Gl.imgA]; omega)]
end
def uR (b : Nat) (l : List Int) : AV := .sl b 0 l.length l.length false
structure Rws (S0 X : St) (bs : Nat → Nat) (cs : List AV) (A : List (List Int)) : Prop where
 cl : ∀ j, j < A.length → cs[j]? = some (uR (bs j) (A.getD j []))
 bl : ∀ j, j < A.length → S0.nx ≤ bs j ∧ bs j < X.nx ∧ X.h.get (bs j) = some (.cells (bB (A.getD j [])) false 0)
 dj : ∀ j k, j < A.length → k < A.length → j ≠ k → bs j ≠ bs k
section
variable {S0 X X' : St} {bs : Nat → Nat} {cs : List AV} {A : List (List Int)}
theorem Rws.move (h : Rws S0 X bs cs A) (hn : X.nx ≤ X'.nx) (hh : ∀ j, j < A.length → X'.h.get (bs j) = X.h.get (bs j)) : Rws S0 X' bs cs A :=
 ⟨h.cl, fun j hj => by obtain ⟨a, b, c⟩ := h.bl j hj; exact ⟨a, Ae b hn, (hh j hj).trans c⟩, h.dj⟩
theorem Rws.same (h : Rws S0 X bs cs A) (hs : Same X X') : Rws S0 X' bs cs A := h.move hs.1 fun j hj => hs.2 _ (h.bl j hj).2.1
theorem Rws.none : Rws S0 X bs cs [] := ⟨fun j hj => absurd hj (Bv j), fun j hj => absurd hj (Bv j), fun j k hj => absurd hj (Bv j)⟩
theorem yV {l : List (List Int)} {x : List Int} {j : Nat} : (l ++ [x]).getD j [] = if j = l.length then x else l.getD j [] := by
 rw [Ac, Ac]
 by_cases h : j < l.length
 ·rw [An h, if_neg (by omega)]
 ·rw [Ao (by omega)]
  by_cases e : j = l.length
  ·rw [if_pos e, e, Ej]; rfl
  ·rw [if_neg e, Bl (by simp; omega), Bl (by omega)]
theorem Rws.add (h : Rws S0 X bs cs A) {nb : Nat} {l : List Int} {cs' : List AV} (h0 : S0.nx ≤ nb) (h1 : nb < X.nx) (hg : X.h.get nb = some (.cells (bB l) false 0)) (hne : ∀ j, j < A.length → bs j ≠ nb) (hc : ∀ j, j < A.length → cs'[j]? = cs[j]?) (hl : cs'[A.length]? = some (uR nb l)) : Rws S0 X (fun j => if j = A.length then nb else bs j) cs' (A ++ [l]) := by
 refine ⟨fun j hj => ?_, fun j hj => ?_, fun j k hj hk hjk => ?_⟩
 ·rw [Ah, Aq] at hj
  rw [yV]
  try simp only
  by_cases e : j = A.length
  ·rw [if_pos e, if_pos e, e]; exact hl
  ·rw [if_neg e, if_neg e, hc j (by omega)]; exact h.cl j (by omega)
 ·rw [Ah, Aq] at hj
  rw [yV]
  try simp only
  by_cases e : j = A.length
  ·rw [if_pos e, if_pos e]; exact ⟨h0, h1, hg⟩
  ·rw [if_neg e, if_neg e]; exact h.bl j (by omega)
 ·rw [Ah, Aq] at hj hk
  try simp only
  by_cases e : j = A.length
  ·rw [if_pos e, if_neg (by omega)]; exact Cr (hne k (by omega))
  ·rw [if_neg e]
   by_cases e2 : k = A.length
   ·rw [if_pos e2]; exact hne j (by omega)
   ·rw [if_neg e2]; exact h.dj j k (by omega) (by omega) hjk
theorem Rws.put (h : Rws S0 X bs cs A) {s k : Nat} {v : Int} (hs : s < A.length) {n : Nat} (hn : X.nx ≤ n) : Rws S0 ⟨X.h.set (bs s) (some (.cells (bB ((A.getD s []).set k v)) false 0)), n⟩ bs cs (A.set s ((A.getD s []).set k v)) := by
 refine ⟨fun j hj => ?_, fun j hj => ?_, fun j k hj hk => ?_⟩
 ·rw [Au] at hj
  rw [pQ hs, h.cl j hj]
  split
  ·rename_i e
   unfold uR
   rw [Au, e]
  ·rfl
 ·rw [Au] at hj
  rw [pQ hs]
  obtain ⟨a, b, c⟩ := h.bl j hj
  refine ⟨a, Ae b hn, ?_⟩
  try simp only
  rw [T.get_set]
  by_cases e : s = j
  ·rw [if_pos e, if_pos (by rw [e])]
  ·rw [if_neg e, if_neg (h.dj j s hj hs (Cr e))]; exact c
 ·rw [Au] at hj hk; exact h.dj j k hj hk
theorem Rws.is (h : Rws S0 X bs cs A) {ob cap sz : Nat} {o o' : Bool} (hob : X.h.get ob = some (.cells cs o sz)) (lt : ob < X.nx) (hc : A.length ≤ cap) : aM 1 SlE X (.sl ob 0 A.length cap o') A := by
 refine .inr ⟨ob, 0, cap, o', cs, rfl, hc, lt, by unfold cP; rw [hob]; rfl, fun i l hi => ?_⟩
 have hlt := (Ai.1 hi).1
 have e : A.getD i [] = l := by rw [Ac, hi]; rfl
 have h1 := h.cl i hlt
 obtain ⟨_, h3, h4⟩ := h.bl i hlt
 rw [e] at h1 h4
 refine ⟨[uR (bs i) l], rfl, fun j x hj => ?_, _, rfl, uI h4 h3 rfl⟩
 cases j with
 | zero =>
  cases hj
  rw [Am, Ee, Bj]
  exact h1
 | succ j => simp at hj
end
theorem gN.push1 {bytes t n : Nat} {S0 S : St} {v x : AV} {cs : List AV} (h : gN 1 S0 S v n cs) (hS : Same S0 S) (ht : S.h.get t = some (.cells [x] false 0)) (h1 : n + 1 ≤ room) (h2 : (n + 1) * bytes ≤ room) :
  ∃ v' S', gF bytes 1 v (.sl t 0 1 1 false) S = some (v', S') ∧ gN 1 S0 S' v' (n + 1) (cs ++ [x]) ∧ aQ v' = some S.nx ∧ S'.nx = S.nx + 1 ∧ ∀ c, c < S.nx → aQ v ≠ some c → S'.h.get c = S.h.get c := by
 have hs := aME ht
 rcases h with ⟨rfl, rfl, rfl⟩ | ⟨b, rfl, hb0, hb, hg, hc⟩
 ·refine ⟨.sl S.nx 0 1 1 true, ⟨S.h.set S.nx (some (.cells [x] true 1)), S.nx + 1⟩, ?_, .inr ⟨S.nx, by rw [Am], hS.1, by simp, ?_, ?_⟩, rfl, rfl, fun c hc _ => (Same.alloc S _).2 c hc⟩
  ·show (bE (some 1) fun j => bE (eE (.sl t 0 1 1 false) S.h 1 j) fun new => yS .nilsl bytes 1 j new S) = _
   rw [aE, hs, aE]
   show oS bytes 1 1 [x] S = _
   unfold oS
   rw [show Nat.beq 1 0 = false from rfl, aL, Ak (by omega), aF, Ak (by rw [Am] at h2; exact h2), aF]
   rfl
  ·simp only
   rw [T.get_set, if_pos rfl]
   rfl
  ·rfl
 ·refine ⟨.sl S.nx 0 (n + 1) (n + 1) true, ⟨(S.h.set b none).set S.nx (some (.cells (cs ++ [x]) true 1)), S.nx + 1⟩, ?_, .inr ⟨S.nx, rfl, hS.1, by simp, ?_, by rw [Ah, hc, Aq, Dq, Eo]⟩, rfl, rfl, fun c hc hne => ?_⟩
  ·show (bE (some 1) fun j => bE (eE (.sl t 0 1 1 false) S.h 1 j) fun new => yS (.sl b 0 n n true) bytes 1 j new S) = _
   rw [aE, hs, aE]
   show jU bytes 1 b 0 n n true 1 [x] S = _
   unfold jU
   have e2 : Nat.ble (n + 1) n = false := by rw [Cb]; intro h; have := Ay h; omega
   rw [e2, aL, Ak h1, aF, Ak h2, aF, hg, aE]
   have e3 : cut cs 0 (n * 1) = some cs := by
    unfold cut
    rw [fO, fZ, Dk, if_pos (by omega), Bn (by omega)]
   have e4 : Nat.beq (0 + n * 1) (jY cs) = true := by rw [gG, hc, Bd]; omega
   simp only [tQ, e3, aE, aF, e4, show Nat.beq 1 1 = true from rfl, grown, fM]
  ·simp only
   rw [T.get_set, if_pos rfl]
  ·simp only
   have : c ≠ b := fun e => hne (by rw [e]; rfl)
   rw [T.get_set, if_neg (by omega), T.get_set, if_neg this]
theorem gN.move {k n : Nat} {S0 S S' : St} {v : AV} {cs : List AV} (h : gN k S0 S v n cs) (hn : S.nx ≤ S'.nx) (hh : ∀ c, aQ v = some c → S'.h.get c = S.h.get c) : gN k S0 S' v n cs := by
 rcases h with h | ⟨b, rfl, h2, h3, h4, h5⟩
 ·exact .inl h
 ·exact .inr ⟨b, rfl, h2, Ae h3 hn, (hh b rfl).trans h4, h5⟩
theorem bO.place {k : IntKind} {S : St} {v : AV} {l : List Int} (h : bO k S v l) {i : Nat} (hi : i < l.length) : ∃ b p, zZ v i = .ptr b p ∧ b < S.nx := by
 rcases h with ⟨h0, _⟩ | ⟨b, off, cap, o, cs, rfl, _, hb, _⟩
 ·rw [h0] at hi; exact absurd hi (Bv _)
 ·exact ⟨b, _, rfl, hb⟩
theorem aNt {h : Ev.T AB} {a b s s' : Nat} {cs cs' : List AV} (ha : h.get a = some (.cells cs false s)) (hb : h.get b = some (.cells cs' true s')) : a ≠ b := fun e => by
 rw [e, hb] at ha
 obtain ⟨_, h2, _⟩ := AB.cells.inj (Bq ha)
 cases h2
theorem aHY {W : Nat → Prop} {h0 : Ev.T AB} {base : Nat} {F : Fr} {S : St} {Q : Fr → St → List gL → Prop} {i a b n m1 m2 j1 j2 : Nat} {z cx cy : List AV} {t1 t2 u1 u2 : cK} (ht1 : Nat.testBit m1 j1 = true) (ht2 : Nat.testBit m1 j2 = true) (hm2 : jX (some i) m2 = true)
  (h1 : t1.val F = .ptr a 0) (h2 : t2.val F = .ptr b 0) (hu1 : (u1.val F).cells = some cx) (hu2 : (u2.val F).cells = some cy) (lz : z.length = n) (lx : cx.length = n) (ly : cy.length = n) (hab : a ≠ b) (hba : base ≤ a) (hbb : base ≤ b)
  (hr : ∀ S', S'.nx = S.nx → S'.h.get a = some (.cells cx false 0) → S'.h.get b = some (.cells cy false 0) → (∀ c, c ≠ a → c ≠ b → S'.h.get c = S.h.get c) → Q F S' []) :
  fJ fns W h0 base [⟨none, .x (.st n t1 u1), none, m1⟩, ⟨none, .x (.st n t2 u2), none, m2⟩] i F S [⟨j2, b, .cells z false 0⟩, ⟨j1, a, .cells z false 0⟩] none Q := by
 have hf : cD m1 [⟨j2, b, .cells z false 0⟩, ⟨j1, a, .cells z false 0⟩] S.h = ([], (S.h.set b (some (.cells z false 0))).set a (some (.cells z false 0))) := by rw [kG ht2, kG ht1, cA]
 have hg1 : ((S.h.set b (some (.cells z false 0))).set a (some (.cells z false 0))).get a = some (.cells z false 0) := by rw [T.get_set, if_pos rfl]
 have x1 := vL (S := ⟨(S.h.set b (some (.cells z false 0))).set a (some (.cells z false 0)), S.nx⟩) (cs' := cx) (n := n) hg1 lz lx
 refine tD (S1 := ⟨((S.h.set b (some (.cells z false 0))).set a (some (.cells z false 0))).set a (some (.cells cx false 0)), S.nx⟩) rfl ?_ ?_ ?_
 ·rw [hf, h1, hu1, aE]; exact x1
 ·rw [hf]; exact ⟨Af _, fun c hc _ => by simp only; rw [T.get_set, if_neg (by omega)]⟩
 rw [hf]
 have hg2 : (((S.h.set b (some (.cells z false 0))).set a (some (.cells z false 0))).set a (some (.cells cx false 0))).get b = some (.cells z false 0) := by rw [T.get_set, if_neg (Cr hab), T.get_set, if_neg (Cr hab), T.get_set, if_pos rfl]
 have x2 := vL (S := ⟨((S.h.set b (some (.cells z false 0))).set a (some (.cells z false 0))).set a (some (.cells cx false 0)), S.nx⟩) (cs' := cy) (n := n) hg2 lz ly
 refine tD (S1 := ⟨(((S.h.set b (some (.cells z false 0))).set a (some (.cells z false 0))).set a (some (.cells cx false 0))).set b (some (.cells cy false 0)), S.nx⟩) hm2 ?_ ?_ ?_
 ·rw [cA]
  show bE (u2.val F).cells (fun cs => nQ (t2.val F) n cs _) = _
  rw [h2, hu2, aE]; exact x2
 ·rw [cA]; exact ⟨Af _, fun c hc _ => by simp only; rw [T.get_set, if_neg (by omega)]⟩
 rw [cA]
 refine hr _ rfl ?_ ?_ fun c hc1 hc2 => ?_
 ·simp only; rw [T.get_set, if_neg hab, T.get_set, if_pos rfl]
 ·simp only; rw [T.get_set, if_pos rfl]
 ·simp only; rw [T.get_set, if_neg hc2, T.get_set, if_neg hc1, T.get_set, if_neg hc1, T.get_set, if_neg hc2]
theorem Rws.low {S S1 X : St} {bs : Nat → Nat} {cs : List AV} {A : List (List Int)} (h : Rws S1 X bs cs A) (hs : S.nx ≤ S1.nx) : Rws S X bs cs A := ⟨h.cl, fun j hj => by obtain ⟨a, b⟩ := h.bl j hj; exact ⟨Al hs a, b⟩, h.dj⟩
theorem aBV {h : Ev.T AB} {b p sz : Nat} {l : List Int} {o : Bool} (hb : h.get b = some (.cells (bB l) o sz)) (hp : p < l.length) : fH (.ptr b p) false 1 h = some (.int .i64 (l.getD p 0)) := cS hb (by
 unfold bB
 rw [Bc, Ab hp, Ac, Ab hp]
 rfl)
theorem aAy {k : IntKind} {x : Int} (h : 0 ≤ x) : eX (.int k x) = some x.toNat := by
 obtain ⟨n, rfl⟩ : ∃ n : Nat, x = (n : Int) := ⟨x.toNat, by omega⟩
 rw [Ba]
 exact aG ..
theorem pV {x0 x1 x2 : Int} {a b c : AV} {k : IntKind} (ha : cO a a = true) (hb : cO b b = true) (hc : cO c c = true) : cO (.agg [.int k x0, .int k x1, .int k x2, a, b, c]) (.agg [.int k x0, .int k x1, .int k x2, a, b, c]) = true := aCw (dO ..) (dO ..) (dO ..) ha hb hc
theorem aKA {g : bF} {m : List Int} {i k : Nat} (h : 0 ≤ fC g m i k) : (fC g m i k).toNat < (nodeAt g (eK m i)).next.length := by
 unfold fC at h ⊢
 rcases mA (c := m.getD ((nodeAt g i).next.getD k 0).toNat 0) (l := (nodeAt g (eK m i)).next) (s := 0) with ⟨h1, _⟩ | ⟨j, h1, h2, _⟩
 ·rw [h1] at h; exact absurd h (by decide)
 ·rw [h1]
  have := (Ai.1 h2).1
  omega
structure gP (g : bF) (m : List Int) (n e : Nat) (I F : List Int) (A : List (List Int)) : Prop where
 s : Seen g m (fun j => j < n) (fun j k => (nodeAt g j).next.getD k 0 < (e : Int)) I A
 lf : F.length = g.infos.length
 fv : ∀ j, j < g.nodes.length → j < n → (nodeAt g j).kind = 2 → F.getD (nodeAt g (eK m j)).info.toNat 0 = (nodeAt g j).info
 fw : ∀ t, t < g.infos.length → 0 ≤ F.getD t 0 → ∃ j, j < g.nodes.length ∧ j < n ∧ (nodeAt g j).kind = 2 ∧ (nodeAt g (eK m j)).info = (t : Int)
 aw : ∀ s, s < g.infos.length → ∀ k, k < (A.getD s []).length → 0 ≤ (A.getD s []).getD k 0 → ∃ j, j < g.nodes.length ∧ (nodeAt g j).kind = 2 ∧ (nodeAt g j).info = (s : Int) ∧ k < (nodeAt g j).next.length ∧ (nodeAt g j).next.getD k 0 < (e : Int)
section
variable {g : bF} {m : List Int} {I F : List Int} {A : List (List Int)} {n e : Nat}
theorem gP.node (h : gP g m n e I F A) (hl : aB8 g m n) (hk : (nodeAt g n).kind ≠ 2) : gP g m (n + 1) e I F A :=
 ⟨(h.s.node hl hk).congr (fun j _ => by omega) (fun _ _ _ _ h => h), h.lf, fun j hj hn hkj => by
  by_cases e : j = n
  ·rw [e] at hkj; exact absurd hkj hk
  ·exact h.fv j hj (by omega) hkj, fun t ht h0 => by obtain ⟨j, a, b, c⟩ := h.fw t ht h0; exact ⟨j, a, by omega, c⟩, h.aw⟩
theorem gP.nodeM (G : dT g) (M : rN g m) (h : gP g m n e I F A) (hi : n < g.nodes.length) (hl : aB8 g m n) (hk : (nodeAt g n).kind = 2) (hI : 0 ≤ I.getD (nodeAt g n).info.toNat 0 → I.getD (nodeAt g n).info.toNat 0 = (nodeAt g (eK m n)).info) (hF : 0 ≤ F.getD (nodeAt g (eK m n)).info.toNat 0 → F.getD (nodeAt g (eK m n)).info.toNat 0 = (nodeAt g n).info) :
  gP g m (n + 1) e (I.set (nodeAt g n).info.toNat (nodeAt g (eK m n)).info) (F.set (nodeAt g (eK m n)).info.toNat (nodeAt g n).info) A := by
 obtain ⟨b1, b2⟩ := qA G M hi hl hk
 have hlt : (nodeAt g (eK m n)).info.toNat < F.length := by rw [h.lf]; omega
 refine ⟨(h.s.nodeM G M hi hl hk hI).congr (fun j _ => by omega) (fun _ _ _ _ h => h), by rw [Au]; exact h.lf, fun j hj hn hkj => ?_, fun t ht h0 => ?_, h.aw⟩
 ·rw [lC hlt]
  by_cases e : j = n
  ·rw [e, if_pos rfl]
  ·have hv := h.fv j hj (by omega) hkj
   split
   ·rename_i e2
    have := (qA G M hj (h.s.lk j hj (by omega)) hkj)
    have e3 : (nodeAt g (eK m n)).info = (nodeAt g (eK m j)).info := by omega
    rw [← e3] at hv
    rw [← hF (by rw [hv]; exact (G.inf j hj hkj).1), hv]
   ·exact hv
 ·rw [lC hlt] at h0
  split at h0
  ·exact ⟨n, hi, by omega, hk, by omega⟩
  ·obtain ⟨j, a, b, c⟩ := h.fw t ht h0
   exact ⟨j, a, by omega, c⟩
theorem dT.kids (G : dT g) : ∀ j, j < g.nodes.length → ∀ k, k < (nodeAt g j).next.length → (j : Int) < (nodeAt g j).next.getD k 0 ∧ (nodeAt g j).next.getD k 0 < g.nodes.length := fun j hj k hk => by
 obtain ⟨T, _, hTl, hW⟩ := G.walk
 have hm : (nodeAt g j).next.getD k 0 ∈ (nodeAt g j).next := by rw [Ac, Ab hk]; exact Bt _
 have := hW.cf j (by omega) _ (by rw [Am, iA]; exact hm)
 omega
theorem dT.only (G : dT g) {j k j' k' : Nat} (hj : j < g.nodes.length) (hk : k < (nodeAt g j).next.length) (hj' : j' < g.nodes.length) (hk' : k' < (nodeAt g j').next.length) (e : (nodeAt g j).next.getD k 0 = (nodeAt g j').next.getD k' 0) : j = j' ∧ k = k' := by
 obtain ⟨T, _, hTl, hW⟩ := G.walk
 have mem : ∀ {j k : Nat}, k < (nodeAt g j).next.length → (nodeAt g j).next.getD k 0 ∈ (nodeAt g j).next := fun {j k} hk => by rw [Ac, Ab hk]; exact Bt _
 have h1 := (hW.cf j (by omega) _ (by rw [Am, iA]; exact mem hk)).2.2
 have h2 := (hW.cf j' (by omega) _ (by rw [Am, iA]; exact mem hk')).2.2
 rw [e, h2] at h1
 have hjj : j = j' := by have := Bq h1; omega
 subst hjj
 have hinc := hW.inc j (by omega)
 rw [Am, iA] at hinc
 refine ⟨rfl, ?_⟩
 rw [Ac, Ac, Ab hk, Ab hk'] at e
 have e : (nodeAt g j).next[k] = (nodeAt g j).next[k'] := e
 rcases Ek k k' with h | h | h
 ·have := List.pairwise_iff_getElem.1 hinc k k' hk hk' h; omega
 ·exact h
 ·have := List.pairwise_iff_getElem.1 hinc k' k hk' hk h; omega
theorem gP.kid (G : dT g) (h : gP g m n n I F A) {i k : Nat} (hi : i < g.nodes.length) (hkl : k < (nodeAt g i).next.length) (hc : (nodeAt g i).next.getD k 0 = (n : Int)) (h0 : 0 ≤ fC g m i k) (hw : aA8 g m i k) (hk : (nodeAt g i).kind ≠ 2) : gP g m n (n + 1) I F A :=
 ⟨(h.s.kid h0 hw hk).congr (fun _ _ => Iff.rfl) (fun j k' hj hk' h => by
  by_cases e : (nodeAt g j).next.getD k' 0 = (n : Int)
  ·exact .inr (G.only hj hk' hi hkl (by rw [e, hc]))
  ·exact .inl (by omega)), h.lf, h.fv, h.fw, fun s hs k hk h0 => by obtain ⟨j, a, b, c, d, e⟩ := h.aw s hs k hk h0; exact ⟨j, a, b, c, d, by omega⟩⟩
theorem gP.kidM (G : dT g) (h : gP g m n n I F A) {i k : Nat} (hi : i < g.nodes.length) (hkl : k < (nodeAt g i).next.length) (hc : (nodeAt g i).next.getD k 0 = (n : Int)) (h0 : 0 ≤ fC g m i k) (hw : aA8 g m i k) (hk : (nodeAt g i).kind = 2)
  (hA : 0 ≤ (A.getD (nodeAt g i).info.toNat []).getD k 0 → (A.getD (nodeAt g i).info.toNat []).getD k 0 = fC g m i k) : gP g m n (n + 1) I F (A.set (nodeAt g i).info.toNat ((A.getD (nodeAt g i).info.toNat []).set k (fC g m i k))) := by
 obtain ⟨a1, a2, a3⟩ := G.inf i hi hk
 have hlt : (nodeAt g i).info.toNat < A.length := by rw [h.s.la]; omega
 have hls := h.s.ls (nodeAt g i).info.toNat (by omega)
 rw [show (((nodeAt g i).info.toNat : Nat) : Int) = (nodeAt g i).info by omega, a3] at hls
 refine ⟨(h.s.kidM G hi hkl h0 hw hk fun j hj hWj hkj e => ?_).congr (fun _ _ => Iff.rfl) (fun j k' hj hk' h => ?_), h.lf, h.fv, h.fw, fun s hs k' hk' h0' => ?_⟩
 ·have b3 := (G.inf j hj hkj).2.2
  rw [e, a3] at b3
  obtain ⟨c1, _, c3⟩ := h.s.kd j k hj (by omega) hWj
  have := c3 hkj
  rw [e] at this
  exact hA (by rw [this]; exact c1)
 ·by_cases e : (nodeAt g j).next.getD k' 0 = (n : Int)
  ·exact .inr (G.only hj hk' hi hkl (by rw [e, hc]))
  ·exact .inl (by omega)
 ·have hold : k' < (A.getD s []).length → 0 ≤ (A.getD s []).getD k' 0 → ∃ j, j < g.nodes.length ∧ (nodeAt g j).kind = 2 ∧ (nodeAt g j).info = (s : Int) ∧ k' < (nodeAt g j).next.length ∧ (nodeAt g j).next.getD k' 0 < ((n + 1 : Nat) : Int) := fun h1 h2 => by
   obtain ⟨j, a, b, c, d, e⟩ := h.aw s hs k' h1 h2
   exact ⟨j, a, b, c, d, by omega⟩
  rw [pQ hlt] at hk' h0'
  split at hk'
  ·rename_i e
   rw [if_pos e] at h0'
   rw [Au] at hk'
   rw [lC (by omega)] at h0'
   split at h0'
   ·rename_i e2
    subst e2
    exact ⟨i, hi, hk, by clear hold hA h0' hk' h; omega, hkl, by rw [hc]; exact Int.ofNat_lt.2 (Dn n)⟩
   ·rw [e] at hk' h0'
    exact hold hk' h0'
  ·rename_i e
   rw [if_neg e] at h0'
   exact hold hk' h0'
theorem gP.no_from (h : gP g m n e I F A) (G : dT g) (M : rN g m) {i : Nat} (hi : i < g.nodes.length) (hl : aB8 g m i) (hk : (nodeAt g i).kind = 2) (h0 : 0 ≤ F.getD (nodeAt g (eK m i)).info.toNat 0) (h1 : F.getD (nodeAt g (eK m i)).info.toNat 0 ≠ (nodeAt g i).info) : ¬ lG g m := fun a => by
 obtain ⟨b1, b2⟩ := qA G M hi hl hk
 obtain ⟨j, c1, c2, c3, c4⟩ := h.fw _ (by omega) h0
 have e : (nodeAt g (eK m j)).info = (nodeAt g (eK m i)).info := by omega
 have := h.fv j c1 c2 c3
 rw [e] at this
 exact h1 (this.trans (a.inj j i c1 hi c3 hk e))
theorem gP.no_act (h : gP g m n e I F A) (G : dT g) {i k : Nat} (hi : i < g.nodes.length) (hk : (nodeAt g i).kind = 2) (hkl : k < (nodeAt g i).next.length) (h0 : 0 ≤ (A.getD (nodeAt g i).info.toNat []).getD k 0) (h1 : (A.getD (nodeAt g i).info.toNat []).getD k 0 ≠ fC g m i k) : ¬ lG g m := by
 obtain ⟨a1, a2, a3⟩ := G.inf i hi hk
 have hls := h.s.ls (nodeAt g i).info.toNat (by omega)
 rw [show (((nodeAt g i).info.toNat : Nat) : Int) = (nodeAt g i).info by omega, a3] at hls
 obtain ⟨j, b1, b2, b3, b4, b5⟩ := h.aw (nodeAt g i).info.toNat (by omega) k (by omega) h0
 exact h.s.no_act G hi b1 hk b2 (by omega) hkl b5 h1
def vR (g : bF) : List (List Int) := g.infos.map fun x => List.replicate x.actions.toNat (-1)
theorem gP.start (G : dT g) (m : List Int) : gP g m 0 1 (List.replicate g.infos.length (-1)) (List.replicate g.infos.length (-1)) (vR g) := by
 have hrep : ∀ (n t : Nat), t < n → ¬ 0 ≤ (List.replicate n (-1 : Int)).getD t 0 := fun n t ht h0 => by
  rw [Ac, Ca, if_pos ht] at h0
  exact absurd h0 (by decide)
 have hun : ∀ s, s < g.infos.length → (vR g).getD s [] = List.replicate (infoAt g (s : Int)).actions.toNat (-1) := fun s hs => by
  unfold vR infoAt
  rw [Ac, Bc, Ac, Ba, Ab hs]
  rfl
 refine ⟨⟨Ap .., by unfold vR; rw [Av], fun s hs => ?_, fun j _ hj => by omega, fun s hs h0 => absurd h0 (hrep _ _ hs), fun j _ hj => by omega, fun j k hj hk hw => ?_⟩, Ap .., fun j _ hj => by omega, fun t ht h0 => absurd h0 (hrep _ _ ht), fun s hs k hk h0 => ?_⟩
 ·obtain ⟨f1, f2, f3⟩ := G.fst s hs
  have hac := (G.inf _ f1 f2).2.2
  rw [f3] at hac
  rw [hun s hs, Ap]
  omega
 ·have := (G.kids j hj k hk).1
  omega
 ·rw [hun s hs] at hk h0
  rw [Ap] at hk
  exact absurd h0 (hrep _ _ hk)
theorem gP.full (h : gP g m g.nodes.length g.nodes.length I F A) (G : dT g) (M : rN g m) (root : m.getD 0 0 = 0) : lG g m ∧ I = imgI g m ∧ A = imgA g m := by
 have hS : Seen g m (fun _ => True) (fun _ _ => True) I A := h.s.congr (fun j hj => ⟨fun _ => trivial, fun _ => hj⟩) fun j k hj hk _ => (G.kids j hj k hk).2
 refine ⟨hS.auto G root fun i j hi hj hki hkj e => ?_, hS.imgI G, hS.imgA G⟩
 rw [← h.fv i hi hi hki, ← h.fv j hj hj hkj, e]
end
theorem aIT {g : bF} {m : List Int} {T : List cE} (hW : WF (dN g) 0 (-1) T) (hT : T.length = g.nodes.length) (M : rN g m) {i k : Nat} (hi : i < g.nodes.length) (hv : ((nodeAt g i).next.getD k 0).toNat < g.nodes.length) :
  ((T.map (·.1)).getD (eK m ((nodeAt g i).next.getD k 0).toNat) 0 = ((eK m i : Nat) : Int) → 0 ≤ fC g m i k ∧ fC g m i k = (kC g).getD (eK m ((nodeAt g i).next.getD k 0).toNat) 0) ∧ ((T.map (·.1)).getD (eK m ((nodeAt g i).next.getD k 0).toNat) 0 ≠ ((eK m i : Nat) : Int) → ¬ 0 ≤ fC g m i k) := by
 obtain ⟨hve, hvN⟩ := M.at hv
 have hti := (M.at hi).2
 unfold fC
 rw [hve]
 generalize eK m ((nodeAt g i).next.getD k 0).toNat = v at *
 generalize eK m i = t at *
 have hpar : (T.map (·.1)).getD v 0 = (jC T v).getD 0 := by
  unfold jC
  rw [Ac, Bc]
 have hsome : ∃ p, jC T v = some p := by
  unfold jC
  rw [Ab (show v < T.length by omega)]
  exact ⟨_, rfl⟩
 obtain ⟨p, hp⟩ := hsome
 rw [hpar, hp]
 constructor
 ·intro h
  have h : p = (t : Int) := h
  subst h
  by_cases v0 : v = 0
  ·subst v0
   rw [hW.root] at hp
   have := Bq hp
   omega
  obtain ⟨q, q1, q2, q3⟩ := hW.pf v (by omega) (by omega)
  rw [hp] at q2
  have hq := Bq q2
  have hqt : q = t := by omega
  subst hqt
  rw [Am, Am, iA] at q3
  rcases mA (c := ((v : Nat) : Int)) (l := (nodeAt g q).next) (s := 0) with ⟨h1, h2⟩ | ⟨j, h1, h2, _⟩
  ·exact absurd q3 h2
  ·have hpl := aF1 hW hT hti (k := j) (c := ((v : Nat) : Int)) (by rw [iA]; exact h2)
   rw [Ba] at hpl
   rw [h1, hpl, Am]
   exact ⟨by omega, rfl⟩
 ·intro h h0
  have h : p ≠ (t : Int) := h
  rcases mA (c := ((v : Nat) : Int)) (l := (nodeAt g t).next) (s := 0) with ⟨h1, h2⟩ | ⟨j, h1, h2, _⟩
  ·rw [h1] at h0; exact absurd h0 (by decide)
  ·have := (hW.cf t (by omega) _ (by rw [Am, iA]; exact Bx h2)).2.2
   rw [show ((v : Nat) : Int).toNat - 0 = v by omega, hp, Am] at this
   exact h (Bq this)
end Go.Ev.Gl
