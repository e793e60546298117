import Derived.Test.YtoojnpjgnnpllaaGl18
open Nat renaming reduceEqDiff → rE, reduceAdd → rA
set_option maxHeartbeats 16000000
set_option linter.unusedSimpArgs false
set_option linter.unusedVariables false
namespace Go.Ev.Gl
variable {fns : T eJ}
structure aDV (g : bF) (c : List Int) : Prop where
 len : c.length = g.infos.length
 ok : ∀ i, i < g.infos.length → 0 ≤ c.getD i 0 ∧ c.getD i 0 < (infoAt g (i : Int)).actions
section
variable {g : bF} {c : List Int} {pr W : Nat → Nat} {z : Nat}
end
def CoI (S1 : St) (gb db : Nat) (lv : AV) (dl : List Int) (g : bF) (k : Nat) (A : bT) (X : St) : Prop := A.inr = false ∧ S1.nx ≤ X.nx ∧ (∀ c, c < S1.nx → c ≠ db → X.h.get c = S1.h.get c) ∧ nD X db lv dl ∧ ∃ (i : Nat) (pv : AV) (l : List Int), i + k = g.infos.length ∧ l.length = i ∧ (∀ j, j < i → 0 ≤ l.getD j 0 ∧ l.getD j 0 < (infoAt g (j : Int)).actions) ∧ gN 1 S1 X pv i (bB l) ∧ aC 0 A.F = .ptr db 0 ∧ aC 3 A.F = .ptr gb 0 ∧ aC 5 A.F = pv ∧ aC 6 A.F = .int .i64 (i : Int)
theorem aGG {l : List Int} {x : Int} {j : Nat} : (l ++ [x]).getD j 0 = if j = l.length then x else l.getD j 0 := by
 rw [Ac, Ac]
 by_cases e : j = l.length
 ·rw [if_pos e, e, Ao (Af _), Ej]
  rfl
 ·rw [if_neg e]
  by_cases h : j < l.length
  ·rw [An h]
  ·rw [Bl (by rw [Ah, Aq]; omega), Bl (by omega)]
theorem aBX {S : St} {db : Nat} {lv nv iv : AV} {dl : List Int} {g : bF} (H : Has fns) (hd : nD S db lv dl) (hinf : ∀ X' : St, S.nx ≤ X'.nx → (∀ c, c < S.nx → c ≠ db → X'.h.get c = S.h.get c) → aM 2 dB X' iv g.infos) (hact : ∀ i, i < g.infos.length → 1 ≤ (infoAt g (i : Int)).actions ∧ (infoAt g (i : Int)).actions ≤ 3) (hil : g.infos.length ≤ 200) :
  iM fns (.fn 23 [] []) [.ptr db 0, .agg [.int .i64 g.players, nv, iv]] S fun r Z => cU db S Z ∧ nD Z db lv dl ∧ ∃ l, bO .i64 Z r l ∧ aDV g l ∧ ∀ c, aQ r = some c → S.nx ≤ c := by
 have ldb := hd.lt
 have hlow := fun {c} (hc : aQ lv = some c) => dV hd.il hc
 refine cV H.f23 (by simp) ?_
 simp only [↓sU,sD,rE,↓reduceIte,rA]
 refine cF ?_
 refine eQ (cs := [.int .i64 g.players, nv, iv]) rfl ?_
 intro S1 s1 n1 g1
 simp only [↓sU,sD,rE,↓reduceIte,rA]
 have d1 : nD S1 db lv dl := hd.move s1.1 (s1.2 _ ldb) fun c hc => s1.2 c (hlow hc)
 refine cF ?_
 simp only [↓sU,sD,rE,↓reduceIte,rA]
 refine jH ?_
 simp only [↓sU,sD,rE,↓reduceIte,rA]
 refine bN (Q := fun o A' X => o = .normal ∧ CoI S1 S.nx db lv dl g 0 A' X) (aU (cI (CoI S1 S.nx db lv dl g) ?_ g.infos.length _ _ ⟨rfl, Af _, fun _ _ _ => rfl, d1, 0, .nilsl, [], by omega, rfl, fun j hj => absurd hj (Bv j), .inl ⟨rfl, rfl, rfl⟩, by simp only [↓sU,sD,rE,↓reduceIte,rA], by simp only [↓sU,sD,rE,↓reduceIte,rA], by simp only [↓sU,sD,rE,↓reduceIte,rA], by simp only [↓sU,sD,rE,↓reduceIte,rA]; try rfl⟩)) ?_
 ·clear d1
  rintro k ⟨F, inr⟩ X ⟨q0, nX, kX, dX, i, pv, l, hik, hll, hl, hg, p0, p3, p5, p6⟩
  simp only at q0 p0 p3 p5 p6
  subst q0
  have cX := (kX S.nx (by omega) (by omega)).trans g1
  have iX := hinf X (by omega) fun c hc hne => (kX c (by omega) hne).trans (s1.2 c hc)
  refine jH ?_
  simp only [↓sU,sD,rE,↓reduceIte,rA, p3, p6, aA, aB, oC cX, iX.len, Aj]
  by_cases hlt : i < g.infos.length
  rotate_left
  ·refine aT (by simp only [↓sU,sD,rE,↓reduceIte,rA, Aa (show ¬ (i : Int) < ((g.infos.length : Nat) : Int) by omega)]) (cC ?_)
   simp only [↓sU,sD,rE,↓reduceIte,rA]
   obtain rfl : k = 0 := by omega
   exact ⟨rfl, nX, kX, dX, i, pv, l, hik, hll, hl, hg, by refine ⟨?_,?_,?_,?_⟩<;>simp only [↓sU,sD,rE,↓reduceIte,rA,p0,p3,p5,p6]⟩
  refine aY (by simp only [↓sU,sD,rE,↓reduceIte,rA, Ad (show (i : Int) < ((g.infos.length : Nat) : Int) by omega)]) (aN ?_)
  try simp only [↓sU,sD,rE,↓reduceIte,rA]
  have w1 : IntKind.i64.wrap ((i : Int) + 1) = ((i + 1 : Nat) : Int) := by rw [wrap_i64 (by omega) (by omega)]; omega
  obtain ⟨a1, a2⟩ := hact i hlt
  obtain ⟨ei, bi, qi, hii, hbi, _, hei, _, hfi⟩ := aM.at iX (by decide) (aEI hlt)
  have hf1 := hfi 1 (.int .i64 (infoAt g (i : Int)).actions) (by rw [hei]; rfl)
  refine aD (aU (aP ?_))
  simp only [↓aH,aJ,rE,↓reduceIte, rA, p0, p3, p5, p6, aA, aB, oC cX, aG, hii, hf1]
  refine bJ ?_
  simp only [↓aH,aJ,rE,↓reduceIte, rA]
  refine aW (jP H dX a1 (by omega)) ?_
  rintro _ Y ⟨bY, dY, y, rfl, hy1, hy2⟩
  try simp only [↓aH,aJ,rE,↓reduceIte, rA]
  refine iO (mI (n := y) (k := .i64) (by simp only [↓aH,aJ,rE,↓reduceIte, rA])) ?_
  intro U u1 m1 c1
  have nY := bY.1
  have hgU : gN 1 ⟨U.h, S1.nx⟩ U pv i (bB l) := (hg.move (S' := Y) nY fun c hc => bY.2 c (hg.blk hc).2.1 (by have := (hg.blk hc).1; omega)).step u1
  obtain ⟨pv', Z, eA, gA, bA, nA, rA⟩ := gN.push1 (bytes := 8) (x := .int .i64 y) hgU ⟨by have := u1.1; show S1.nx ≤ U.nx; omega, fun _ _ => rfl⟩ c1 (by unfold room; omega) (by unfold room; omega)
  refine fX (v := pv') (S1 := Z) (fun call => by simp only [↓aH,aJ,rE,↓reduceIte, rA, fU]; exact eA) ?_
  simp only [↓aH,aJ,rE,↓reduceIte, rA]
  refine aP ?_
  simp only [↓sU,sD,rE,↓reduceIte,rA, p6, w1]
  have hpb : ∀ {c}, aQ pv = some c → S1.nx ≤ c := fun hc => (hg.blk hc).1
  have nU := u1.1
  have ldbX := dX.lt
  refine ⟨k - 1, by omega, rfl, by omega, fun c hc hne => ?_, ?_, i + 1, pv', l ++ [y], by omega, by rw [Ah, hll]; rfl, fun j hj => ?_, ?_, by refine ⟨?_,?_,?_,?_⟩<;>simp only [↓sU,sD,rE,↓reduceIte,rA,p0,p3]⟩
  ·rw [rA c (by omega) (fun e => by have := hpb e; omega), u1.2 c (by omega), bY.2 c (by omega) hne]
   exact kX c hc hne
  ·refine dY.move (by omega) ?_ fun c hc => ?_
   ·rw [rA db (by omega) (fun e => by have := hpb e; omega)]
    exact u1.2 db (by omega)
   ·have := hlow hc
    rw [rA c (by omega) (fun e => by have := hpb e; omega)]
    exact u1.2 c (by omega)
  ·rw [aGG, hll]
   by_cases e : j = i
   ·subst e; rw [if_pos rfl]; exact ⟨hy1, hy2⟩
   ·rw [if_neg e]; exact hl j (by omega)
  ·have e : bB (l ++ [y]) = bB l ++ [.int .i64 y] := by unfold bB; rw [Co]; rfl
   rw [e]
   exact gA
 rintro o ⟨F, inr⟩ X ⟨rfl, q0, nX, kX, dX, i, pv, l, hik, hll, hl, hg, p0, p3, p5, p6⟩
 simp only at q0 p5
 subst q0
 obtain rfl : i = g.infos.length := by omega
 try simp only [↓sU,sD,rE,↓reduceIte,rA]
 refine cF ?_
 simp only [↓sU,sD,rE,↓reduceIte,rA, p5]
 refine bD ?_
 simp only [↓sU,sD,rE,↓reduceIte,rA]
 refine ⟨⟨by omega, fun c hc hne => (kX c (by omega) hne).trans (s1.2 c hc)⟩, dX, l, ?_, ⟨hll, hl⟩, fun c hc => by have := (hg.blk hc).1; omega⟩
 rw [← hll] at hg
 exact gN.is hg
end Go.Ev.Gl
