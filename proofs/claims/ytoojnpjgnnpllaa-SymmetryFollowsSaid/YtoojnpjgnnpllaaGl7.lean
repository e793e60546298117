import Derived.Test.YtoojnpjgnnpllaaGl6
open Nat renaming reduceEqDiff → rE, reduceAdd → rA
set_option maxHeartbeats 16000000
set_option linter.unusedSimpArgs false
set_option linter.unusedVariables false
namespace Go.Ev.Gl
variable {fns : T eJ}
theorem aFV {S : St} {a : Int} (H : Has fns) : iM fns (.fn 185 [] []) [.int .i64 a] S fun r S' => r = .bool false ∧ S' = S := by
 refine cV H.f185 (by simp) ?_
 simp only [↓aH,aJ,rE,↓reduceIte]
 refine cF ?_
 simp only [↓aH,aJ,rE,↓reduceIte]
 refine cF ?_
 simp only [↓aH,aJ,rE,↓reduceIte, Aa (show ¬ a ≠ a from fun h => h rfl)]
 refine bD ?_
 simp only [↓aH,aJ,rE,↓reduceIte]
theorem aHx {S : St} {a b : Int} (H : Has fns) : iM fns (.fn 182 [] []) [.int .i64 a, .int .i64 b] S fun r S' => r = .bool (decide (a < b)) ∧ S' = S := by
 refine cV H.f182 (by simp) ?_
 simp only [↓aH,aJ,rE,↓reduceIte]
 refine cF ?_
 simp only [↓aH,aJ,rE,↓reduceIte]
 refine cF ?_
 simp only [↓aH,aJ,rE,↓reduceIte]
 refine bJ ?_
 simp only [↓aH,aJ,rE,↓reduceIte]
 refine aW (aFV H) ?_
 rintro _ X ⟨rfl, hX⟩
 rw [hX]
 simp only [↓aH,aJ,rE,↓reduceIte]
 refine bD ?_
 simp only [↓aH,aJ,rE,↓reduceIte]
def aFf (m : Int) (l : List Int) : Int := l.foldl mx m
def aMG (S : St) (v : AV) (l : List Int) (m0 : Int) (k : Nat) (A : bT) (X : St) : Prop := A.inr = false ∧ X = S ∧ ∃ i, i + k = l.length ∧ 0 < i ∧ aC 0 A.F = v ∧ aC 3 A.F = .int .i64 (aFf m0 ((l.take i).drop 1)) ∧ aC 4 A.F = .int .i64 (i : Int)
theorem aH6 {S : St} {v : AV} {l : List Int} (H : Has fns) (hl : bO .i64 S v l) (hne : 0 < l.length) (hlen : l.length ≤ 1000000) : iM fns (.fn 164 [] []) [v] S fun r S' => r = .int .i64 (aFf (l.getD 0 0) (l.drop 1)) ∧ S' = S := by
 refine cV H.f164 (by simp) ?_
 simp only [↓aH,aJ,rE,↓reduceIte]
 refine cF ?_
 simp only [↓aH,aJ,rE,↓reduceIte]
 refine jH ?_
 simp only [↓aH,aJ,rE,↓reduceIte, hl.len, Aj]
 refine aT (by simp only [↓aH,aJ,rE,↓reduceIte, Aa (show ¬ ((l.length : Nat) : Int) < 1 by omega)]) (aN ?_)
 try simp only [↓aH,aJ,rE,↓reduceIte]
 have hia := hl.iaddr hne
 have hld := hl.ld hne
 refine cF ?_
 simp only [↓aH,aJ,rE,↓reduceIte, aDp, hia, hld]
 refine jH ?_
 simp only [↓aH,aJ,rE,↓reduceIte]
 refine aU (cI (aMG S v l (l.getD 0 0)) ?_ (l.length - 1) _ _ ⟨rfl, rfl, 1, by omega, by decide, by simp only [↓aH,aJ,rE,↓reduceIte], by simp only [↓aH,aJ,rE,↓reduceIte]; rw [Cv (by rw [Bs]; omega)]; rfl, by simp only [↓aH,aJ,rE,↓reduceIte]⟩)
 rintro k ⟨F, inr⟩ X ⟨q0, hX, i, hik, hi0, p0, p3, p4⟩
 simp only at q0 p0 p3 p4
 subst q0
 rw [hX]
 refine jH ?_
 simp only [↓aH,aJ,rE,↓reduceIte, p0, p4, hl.len, Aj]
 by_cases hi : i < l.length
 ·refine aY (by simp only [↓aH,aJ,rE,↓reduceIte, Ad (show (i : Int) < ((l.length : Nat) : Int) by omega)]) (aN ?_)
  try simp only [↓aH,aJ,rE,↓reduceIte]
  have hia := hl.iaddr hi
  have hld := hl.ld hi
  have htk : (l.take (i + 1)).drop 1 = (l.take i).drop 1 ++ [l.getD i 0] := by
   rw [Cl, Ab hi, List.drop_append, Bs, show 1 - min i l.length = 0 by omega, Ac, Ab hi]
   rfl
  have w1 : IntKind.i64.wrap ((i : Int) + 1) = ((i + 1 : Nat) : Int) := by rw [wrap_i64 (by omega) (by omega)]; omega
  refine aD (aU (aP ?_))
  simp only [↓aH,aJ,rE,↓reduceIte, p0, p3, p4, aG, hia, hld, aLJ, aDG]
  refine aP ?_
  simp only [↓aH,aJ,rE,↓reduceIte, p4, w1]
  refine ⟨k - 1, by omega, rfl, rfl, i + 1, by omega, by omega, by simp only [↓aH,aJ,rE,↓reduceIte, p0], ?_, by simp only [↓aH,aJ,rE,↓reduceIte]⟩
  simp only [↓aH,aJ,rE,↓reduceIte]
  rw [htk]
  unfold aFf
  rw [List.foldl_append]
  rfl
 ·refine aT (by simp only [↓aH,aJ,rE,↓reduceIte, Aa (show ¬ (i : Int) < ((l.length : Nat) : Int) by omega)]) (cC ?_)
  simp only [↓aH,aJ,rE,↓reduceIte]
  rw [Bn (by omega)] at p3
  refine cF ?_
  simp only [↓aH,aJ,rE,↓reduceIte, p3]
  refine bD ?_
  simp only [↓aH,aJ,rE,↓reduceIte]
def aOb (S : St) (v : AV) (l : List Int) (z : Int) (k : Nat) (A : bT) (X : St) : Prop := A.inr = false ∧ X = S ∧ ∃ i, i + k = l.length ∧ ¬ z ∈ l.take i ∧ aC 0 A.F = v ∧ aC 1 A.F = .int .i64 z ∧ aC 7 A.F = .int .i64 ((l.length : Nat) : Int) ∧ aC 8 A.F = .int .i64 (i : Int)
theorem aEh {S : St} {v : AV} {l : List Int} {z : Int} (H : Has fns) (hl : bO .i64 S v l) (hlen : l.length ≤ 1000000) : iM fns (.fn 181 [] []) [v, .int .i64 z] S fun r S' => (∃ j, r = .int .i64 j ∧ (0 ≤ j ↔ z ∈ l)) ∧ S' = S := by
 refine cV H.f181 (by simp) ?_
 simp only [↓aH,aJ,rE,↓reduceIte]
 refine cF ?_
 simp only [↓aH,aJ,rE,↓reduceIte]
 refine jH ?_
 simp only [↓aH,aJ,rE,↓reduceIte, hl.len, Aj]
 refine aU (cI (aOb S v l z) ?_ l.length _ _ ⟨rfl, rfl, 0, by omega, by simp, by refine ⟨?_,?_,?_,?_⟩<;>simp only [↓aH,aJ,rE,↓reduceIte]⟩)
 rintro k ⟨F, inr⟩ X ⟨q0, hX, j, hjk, ha, p0, p1, p7, p8⟩
 simp only at q0 p0 p1 p7 p8
 subst q0
 rw [hX]
 refine cF ?_
 simp only [↓aH,aJ,rE,↓reduceIte, p7, p8]
 by_cases hj : j < l.length
 ·refine aD (aY (by simp only [↓aH,aJ,rE,↓reduceIte, Ad (show (j : Int) < ((l.length : Nat) : Int) by omega)]) (aN ?_))
  simp only [↓aH,aJ,rE,↓reduceIte]
  have hia := hl.iaddr hj
  have hld := hl.ld hj
  have hgd : l.getD j 0 = l[j] := by rw [Ac, Ab hj]; rfl
  have htk : l.take (j + 1) = l.take j ++ [l.getD j 0] := by rw [Cl, Ab hj, hgd]; rfl
  have hmem : l.getD j 0 ∈ l := by rw [hgd]; exact Bt hj
  generalize l.getD j 0 = w at *
  have w1 : IntKind.i64.wrap ((j : Int) + 1) = ((j + 1 : Nat) : Int) := by rw [wrap_i64 (by omega) (by omega)]; omega
  refine aD (aU (aD (aP ?_)))
  simp only [↓aH,aJ,rE,↓reduceIte, p8]
  refine cF ?_
  simp only [↓aH,aJ,rE,↓reduceIte, p0, p1, aG, hia, hld]
  by_cases ho : z = w
  ·refine aY (by simp only [↓aH,aJ,rE,↓reduceIte, Ad ho]) ?_
   refine cF ?_
   simp only [↓aH,aJ,rE,↓reduceIte]
   refine bD ?_
   simp only [↓aH,aJ,rE,↓reduceIte]
   exact ⟨_, rfl, ⟨fun _ => by rw [ho]; exact hmem, fun _ => by omega⟩⟩
  ·refine aT (by simp only [↓aH,aJ,rE,↓reduceIte, Aa ho]) (aN ?_)
   try simp only [↓aH,aJ,rE,↓reduceIte]
   refine aP ?_
   simp only [↓aH,aJ,rE,↓reduceIte, p8, w1]
   refine ⟨k - 1, by omega, rfl, rfl, j + 1, by omega, ?_, by refine ⟨?_,?_,?_,?_⟩<;>simp only [↓aH,aJ,rE,↓reduceIte,p0,p1,p7]⟩
   rw [htk]
   intro h
   rcases Bh.1 h with h | h
   ·exact ha h
   ·simp at h; exact ho h
 ·refine aD (aT (by simp only [↓aH,aJ,rE,↓reduceIte, Aa (show ¬ (j : Int) < ((l.length : Nat) : Int) by omega)]) (cC ?_))
  simp only [↓aH,aJ,rE,↓reduceIte]
  rw [Bn (by omega)] at ha
  refine cF ?_
  simp only [↓aH,aJ,rE,↓reduceIte]
  refine bD ?_
  simp only [↓aH,aJ,rE,↓reduceIte]
  exact ⟨_, rfl, ⟨fun h => absurd h (by decide), fun h => absurd h ha⟩⟩
theorem aAE {S : St} {v : AV} {l : List Int} {z : Int} (H : Has fns) (hl : bO .i64 S v l) (hlen : l.length ≤ 1000000) : iM fns (.fn 176 [] []) [v, .int .i64 z] S fun r S' => r = .bool (decide (z ∈ l)) ∧ S' = S := by
 refine cV H.f176 (by simp) ?_
 simp only [↓aH,aJ,rE,↓reduceIte]
 refine cF ?_
 simp only [↓aH,aJ,rE,↓reduceIte]
 refine cF ?_
 simp only [↓aH,aJ,rE,↓reduceIte]
 refine bJ ?_
 simp only [↓aH,aJ,rE,↓reduceIte]
 refine aW (aEh H hl hlen) ?_
 rintro _ Y ⟨⟨j, rfl, hj⟩, hY⟩
 rw [hY]
 have hd : decide ((0 : Int) ≤ j) = decide (z ∈ l) := by rw [Ce, Db, Db]; exact hj
 simp only [↓aH,aJ,rE,↓reduceIte, hd]
 refine bD ?_
 simp only [↓aH,aJ,rE,↓reduceIte]
def aNd (l : List Int) (a b : Nat) : Prop := ∀ i, a < i → i < b → ¬ l.getD i 0 < l.getD (i - 1) 0
def aI7 (l : List Int) : Prop := aNd l 0 l.length
def aOg (S : St) (v : AV) (l : List Int) (k : Nat) (A : bT) (X : St) : Prop := A.inr = false ∧ Same S X ∧ ∃ i : Int, (k : Int) = max i 0 ∧ -1 ≤ i ∧ i < max 1 (l.length : Int) ∧ aNd l i.toNat l.length ∧ aC 0 A.F = v ∧ aC 3 A.F = .int .i64 i
theorem aEy {S : St} {v : AV} {l : List Int} (H : Has fns) (hl : bO .i64 S v l) (hlen : l.length ≤ 1000000) : iM fns (.fn 177 [] []) [v] S fun r S' => (∃ t, r = .bool t ∧ (t = true ↔ aI7 l)) ∧ Same S S' := by
 refine cV H.f177 (by simp) ?_
 simp only [↓aH,aJ,rE,↓reduceIte]
 refine cF ?_
 simp only [↓aH,aJ,rE,↓reduceIte]
 have w0 : IntKind.i64.wrap (((l.length : Nat) : Int) - 1) = ((l.length : Nat) : Int) - 1 := wrap_i64 (by omega) (by omega)
 refine jH ?_
 simp only [↓aH,aJ,rE,↓reduceIte, hl.len, Aj, w0]
 refine aU (cI (aOg S v l) ?_ (l.length - 1) _ _ ⟨rfl, Same.refl S, ((l.length : Nat) : Int) - 1, by omega, by omega, by omega, fun i h1 h2 => by omega, by refine ⟨?_,?_⟩<;>simp only [↓aH,aJ,rE,↓reduceIte]⟩)
 rintro k ⟨F, inr⟩ X ⟨q0, hX, i, hik, hi1, hi2, hup, p0, p3⟩
 simp only at q0 p0 p3
 subst q0
 have hlX := hl.same hX
 refine jH ?_
 simp only [↓aH,aJ,rE,↓reduceIte, p3]
 by_cases hi : 0 < i
 ·refine aY (by simp only [↓aH,aJ,rE,↓reduceIte, Ad hi]) (aN ?_)
  try simp only [↓aH,aJ,rE,↓reduceIte]
  obtain ⟨n, rfl⟩ : ∃ n : Nat, i = (n : Int) := ⟨i.toNat, by omega⟩
  have h1 : n < l.length := by omega
  have h0 : n - 1 < l.length := by omega
  have w1 : IntKind.i64.wrap ((n : Int) - 1) = ((n - 1 : Nat) : Int) := by rw [wrap_i64 (by omega) (by omega)]; omega
  have ia1 := hlX.iaddr h1
  have ia0 := hlX.iaddr h0
  have ld1 := hlX.ld h1
  have ld0 := hlX.ld h0
  have hself := bO.self hl
  obtain ⟨b, hb⟩ : ∃ b off cap o, v = .sl b off l.length cap o ∧ b < X.nx := by
   rcases hlX with ⟨h0, _⟩ | ⟨b, off, cap, o, cs, rfl, _, hb, _⟩
   ·rw [h0] at h1; simp at h1
   ·exact ⟨b, off, cap, o, rfl, hb⟩
  obtain ⟨off, cap, o, rfl, hbX⟩ := hb
  simp only [zZ] at ia1 ia0 ld1 ld0
  refine aD (aU (aD (mN (fun _ => False) ?_)))
  intro S1 s1
  simp only [↓sU,sD,rE,↓reduceIte,rA, p0, p3, aG, ia1, w1, ia0, ld1, ld0, hbX, Ax]
  refine iF rfl ?_
  simp only [↓sU,sD,rE,↓reduceIte,rA]
  refine aW (aHx H) ?_
  rintro _ Y ⟨rfl, hY⟩
  rw [hY]
  refine ⟨Same.refl _, ?_⟩
  try simp only [↓sU,sD,rE,↓reduceIte,rA]
  by_cases ho : l.getD n 0 < l.getD (n - 1) 0
  ·refine aY (by simp only [↓sU,sD,rE,↓reduceIte,rA, Ad ho]) ?_
   refine cF ?_
   simp only [↓sU,sD,rE,↓reduceIte,rA]
   refine bD ?_
   simp only [↓sU,sD,rE,↓reduceIte,rA]
   exact ⟨⟨_, rfl, ⟨fun h => (by cases h), fun h => absurd ho (h n (by omega) h1)⟩⟩, hX.trans s1⟩
  ·refine aT (by simp only [↓sU,sD,rE,↓reduceIte,rA, Aa ho]) (aN ?_)
   try simp only [↓sU,sD,rE,↓reduceIte,rA]
   refine aP ?_
   simp only [↓sU,sD,rE,↓reduceIte,rA, p3, w1]
   refine ⟨k - 1, by omega, rfl, hX.trans s1, ((n - 1 : Nat) : Int), by omega, by omega, by omega, fun j h1 h2 => ?_, by refine ⟨?_,?_⟩<;>simp only [↓sU,sD,rE,↓reduceIte,rA,p0]⟩
   by_cases hj : j = n
   ·rw [hj]; exact ho
   ·exact hup j (by omega) h2
 ·refine aT (by simp only [↓aH,aJ,rE,↓reduceIte, Aa hi]) (cC ?_)
  simp only [↓aH,aJ,rE,↓reduceIte]
  refine cF ?_
  simp only [↓aH,aJ,rE,↓reduceIte]
  refine bD ?_
  simp only [↓aH,aJ,rE,↓reduceIte]
  exact ⟨⟨_, rfl, ⟨fun _ j h1 h2 => hup j (by omega) h2, fun _ => rfl⟩⟩, hX⟩
def jW : List cM → Nat → Nat → Nat
 | [], _, _ => 0
 | x :: l, s, i => if x.kind = 2 ∧ x.info = (i : Int) then s + 1 else jW l (s + 1) i
def jE (g : bF) : List Int := (List.range g.infos.length).map fun i => ((jW g.nodes 0 i : Nat) : Int)
def infoAt (g : bF) (i : Int) : iC := g.infos.getD i.toNat ⟨0, 0⟩
def mis (g : bF) (x : cM) : Prop := x.kind = 2 ∧ ¬ ((infoAt g x.info).player = x.player ∧ (infoAt g x.info).actions = ((x.next.length : Nat) : Int))
instance misDec (g : bF) (x : cM) : Decidable (mis g x) := by unfold mis; exact inferInstance
open Classical in
noncomputable def wU (g : bF) : Int := if ∃ x ∈ g.nodes, mis g x then 10 else if (0 : Int) ∈ jE g then 18 else if aI7 (jE g) then 0 else 9
def aKp (g : bF) : Prop := ∀ x ∈ g.nodes, x.kind = 2 → 0 ≤ x.info ∧ x.info < g.infos.length
theorem aH2 (a b c d : Int) : lE .neq (.struct [(0, .int), (1, .int)]) (.agg [.int .i64 a, .int .i64 b]) (.agg [.int .i64 c, .int .i64 d]) = some (.bool (decide (¬ (a = c ∧ b = d)))) := by
 have k : ∀ y z : Int, eqp .int (.int .i64 y) (.int .i64 z) = some (decide (y = z)) := fun y z => by
  show bQ (keq .i64 .i64) (some (ieq y z)) none = _
  rw [gK, aF, lU]
  congr 1
 have e : eqv (.struct [(0, .int), (1, .int)]) (.agg [.int .i64 a, .int .i64 b]) (.agg [.int .i64 c, .int .i64 d]) = some (decide (a = c ∧ b = d)) := by
  show eqs [(0, .int), (1, .int)] [.int .i64 a, .int .i64 b] [.int .i64 c, .int .i64 d] = _
  unfold eqs
  show (match eqp .int (.int .i64 a) (.int .i64 c) with | some true => _ | some false => _ | none => _) = _
  rw [k]
  by_cases h : a = c
  ·rw [Ad h]
   unfold eqs
   show (match eqp .int (.int .i64 b) (.int .i64 d) with | some true => _ | some false => _ | none => _) = _
   rw [k]
   by_cases h2 : b = d
   ·rw [Ad h2, Ad ⟨h, h2⟩]; rfl
   ·rw [Aa h2, Aa (fun h3 => h2 h3.2)]
  ·rw [Aa h, Aa (fun h3 => h h3.1)]
 show bE (eqv (.struct [(0, .int), (1, .int)]) _ _) _ = _
 rw [e, aE]
 congr 2
 by_cases h : a = c ∧ b = d
 ·rw [Ad h, Aa (fun h2 => h2 h)]; rfl
 ·rw [Aa h, Ad h]; rfl
def aLj (S : St) (wb fb : Nat) (g : bF) (k : Nat) (A : bT) (X : St) : Prop := A.inr = false ∧ Same S X ∧ ∃ F : List Int, k ≤ g.nodes.length ∧ F.length = g.infos.length ∧ (∀ j, j < g.infos.length → F.getD j 0 = ((jW (g.nodes.drop k) k j : Nat) : Int)) ∧ X.h.get fb = some (.cells (bB F) false 0) ∧ fb < X.nx ∧
 aC 0 A.F = .ptr wb 0 ∧ aC 3 A.F = .sl fb 0 g.infos.length g.infos.length false ∧ aC 4 A.F = .int .i64 ((k : Int) - 1)
def aMU (S1 : St) (wb : Nat) (fv nv : AV) (g : bF) (k : Nat) (A : bT) (X : St) : Prop := A.inr = false ∧ Same S1 X ∧ ∃ i, i + k = g.nodes.length ∧ (∀ x ∈ g.nodes.take i, ¬ mis g x) ∧ aC 0 A.F = .ptr wb 0 ∧ aC 3 A.F = fv ∧ aC 47 A.F = nv ∧ aC 48 A.F = .int .i64 ((g.nodes.length : Nat) : Int) ∧ aC 49 A.F = .int .i64 (i : Int)
theorem aHJ {S : St} {wb : Nat} {ps : Int} {nv iv pv dv lv : AV} {g : bF} (H : Has fns) (hW : pF S wb ps nv iv pv dv lv) (hn : aM 6 cL S nv g.nodes) (hi : aM 2 dB S iv g.infos) (hN : g.nodes.length ≤ 2000) (hI : g.infos.length ≤ 200) (hok : aKp g) :
  iM fns (.fn 165 [] []) [.ptr wb 0] S fun r S' => r = .int .i64 (wU g) ∧ Same S S' := by
 refine cV H.f165 (by simp) ?_
 simp only [↓aH,aJ,rE,↓reduceIte, rA]
 refine cF ?_
 simp only [↓aH,aJ,rE,↓reduceIte, rA]
 refine cF ?_
 simp only [↓aH,aJ,rE,↓reduceIte, rA, aS, aR, aA, aB, fP hW.1, hi.len]
 refine iO (qR (n := g.infos.length) (by simp only [↓aH,aJ,rE,↓reduceIte, rA, aG]) (by simp only [↓aH,aJ,rE,↓reduceIte, rA, aG]) (by unfold room; omega) (by unfold room; omega)) ?_
 intro S1 s1 n1 c1
 simp only [↓aH,aJ,rE,↓reduceIte, rA]
 have hz : repeatL [AV.int .i64 0] g.infos.length = bB (List.replicate g.infos.length 0) := by rw [repeatL_one]; simp [bB]
 rw [hz] at c1
 have hW1 := hW.same s1
 have w0 : IntKind.i64.wrap (((g.nodes.length : Nat) : Int) - 1) = ((g.nodes.length : Nat) : Int) - 1 := wrap_i64 (by omega) (by omega)
 refine aD (bN (Q := fun o A' X => o = .normal ∧ aLj S wb S.nx g 0 A' X) (aD (aP ?_)) ?_)
 ·simp only [↓aH,aJ,rE,↓reduceIte, rA, aS, aR, aA, aB, eY hW1.1, hn.len, w0]
  refine aU (cI (aLj S wb S.nx g) ?_ g.nodes.length _ _ ⟨rfl, s1, _, Af _, Ap .., fun j hj => ?_, c1, by omega, by refine ⟨?_,?_,?_⟩<;>simp only [↓aH,aJ,rE,↓reduceIte,rA]⟩)
  rotate_left
  ·rw [Cv (Af _), Ac, Ca]
   split <;> rfl
  rintro k ⟨F, inr⟩ X ⟨q0, hX, Fl, hkN, hFl, hF, hfb, hfbX, p0, p3, p4⟩
  simp only at q0 p0 p3 p4
  subst q0
  refine jH ?_
  simp only [↓aH,aJ,rE,↓reduceIte, rA, p4]
  by_cases hk : 0 < k
  ·refine aY (by simp only [↓aH,aJ,rE,↓reduceIte, rA, Ad (show (0 : Int) ≤ (k : Int) - 1 by omega)]) (aN ?_)
   try simp only [↓aH,aJ,rE,↓reduceIte, rA]
   have e1 : (k : Int) - 1 = ((k - 1 : Nat) : Int) := by omega
   rw [e1] at p4
   have hlt : k - 1 < g.nodes.length := by omega
   obtain ⟨x, hx⟩ : ∃ x, g.nodes[k - 1]? = some x := ⟨_, Ab hlt⟩
   have hxm := Bx hx
   have hWX := hW.same hX
   obtain ⟨e, b, q, hia, hb, he, ⟨a, bb, cc, rfl, ha, hbb, hcc⟩, hag, _⟩ := aM.at (aM.same (E := cL) cB hn hX) (by decide) hx
   have hdrop : g.nodes.drop (k - 1) = x :: g.nodes.drop k := by
    rw [Cj hlt, show k - 1 + 1 = k by omega]
    congr 1
    rw [Ab hlt] at hx
    exact Bq hx
   have w1 : IntKind.i64.wrap (((k - 1 : Nat) : Int) + 1) = (k : Int) := by rw [wrap_i64 (by omega) (by omega)]; omega
   have w2 : IntKind.i64.wrap (((k - 1 : Nat) : Int) - 1) = ((k - 1 : Nat) : Int) - 1 := wrap_i64 (by omega) (by omega)
   refine aD (aU (aD (aP ?_)))
   simp only [↓aH,aJ,rE,↓reduceIte, rA, p0, p4, aS, aR, aA, aB, eY hWX.1, aG, hia, hag]
   refine dC ?_
   intro X1 x1 m1 d1
   refine dU (b := X.nx) (by simp only [↓aH,aJ,rE,↓reduceIte, rA]) (by simp only [↓aH,aJ,rE,↓reduceIte, rA]; exact bK _) d1 rfl rfl ?_
   intro X2 x2 m2 d2
   simp only [↓aH,aJ,rE,↓reduceIte, rA]
   have hX2 : Same X X2 := x2.same x1 (Af _)
   have hfb2 : X2.h.get S.nx = some (.cells (bB Fl) false 0) := by rw [hX2.2 _ hfbX]; exact hfb
   refine cF ?_
   simp only [↓aH,aJ,rE,↓reduceIte, rA, aA, aB, fD d2]
   have hfin : ∀ (G : Fr) (Y : St) (Fl' : List Int), aC 0 G = .ptr wb 0 → aC 3 G = .sl S.nx 0 g.infos.length g.infos.length false → aC 4 G = .int .i64 ((k - 1 : Nat) : Int) → Same S Y → Fl'.length = g.infos.length → (∀ j, j < g.infos.length → Fl'.getD j 0 = ((jW (g.nodes.drop (k - 1)) (k - 1) j : Nat) : Int)) → Y.h.get S.nx = some (.cells (bB Fl') false 0) → S.nx < Y.nx → qM fns [mt 24 4, oq 25 (bi .sub (.t 24) (ci 1)), mt 4 25] G Y fun F' S' => ∃ k', k' < k ∧ aLj S wb S.nx g k' ⟨F', false⟩ S' := fun G Y Fl' g0 g3 g4 hY h1 h2 h3 h4 => by
    simp only [↓aH,aJ,rE,↓reduceIte, rA, g4, w2]
    exact ⟨k - 1, by omega, rfl, hY, Fl', by omega, h1, h2, h3, h4, by refine ⟨?_,?_,?_⟩<;>simp only [↓aH,aJ,rE,↓reduceIte,rA,g0,g3]⟩
   by_cases hk2 : x.kind = 2
   ·refine aY (by simp only [↓aH,aJ,rE,↓reduceIte, rA, Ad hk2]) ?_
    obtain ⟨i0, i1⟩ := hok x hxm hk2
    obtain ⟨n, hn'⟩ : ∃ n : Nat, x.info = (n : Int) := ⟨x.info.toNat, by omega⟩
    have hni : n < g.infos.length := by omega
    rw [hn'] at d2
    have hif := fV (b := S.nx) (o := false) hni
    refine aP ?_
    simp only [↓aH,aJ,rE,↓reduceIte, rA, p0, p3, p4, aA, aB, fP d2, w1, aG, hif]
    refine fX (fun call => by simp only [↓aH,aJ,rE,↓reduceIte, rA, dW, cT]; exact uA (S := X2) hfb2 (by rw [hFl]; exact hni)) ?_
    simp only [↓aH,aJ,rE,↓reduceIte, rA]
    refine aP ?_
    refine aEB (hfin _ _ (Fl.set n (k : Int)) (by simp only [↓aH,aJ,rE,↓reduceIte, rA, p0]) (by simp only [↓aH,aJ,rE,↓reduceIte, rA, p3]) (by simp only [↓aH,aJ,rE,↓reduceIte, rA, p4]) (((hX.trans hX2)).put (Af _) _) (by rw [Au]; exact hFl) (fun j hj => ?_) (by simp only; rw [T.get_set, if_pos rfl]) (by simp only; omega)) fun F' S' hh => hh
    rw [fS (by rw [hFl]; exact hni), hdrop, hF j hj]
    simp only [jW]
    by_cases hjn : j = n
    ·rw [if_pos hjn, if_pos ⟨hk2, by rw [hn', hjn]⟩]; omega
    ·rw [if_neg hjn, if_neg (fun h => hjn (by omega)), show k - 1 + 1 = k by omega]
   ·refine aT (by simp only [↓aH,aJ,rE,↓reduceIte, rA, Aa hk2]) (aN ?_)
    try simp only [↓aH,aJ,rE,↓reduceIte, rA]
    refine aP ?_
    refine aEB (hfin _ X2 Fl (by simp only [↓aH,aJ,rE,↓reduceIte, rA, p0]) (by simp only [↓aH,aJ,rE,↓reduceIte, rA, p3]) (by simp only [↓aH,aJ,rE,↓reduceIte, rA, p4]) (hX.trans hX2) hFl (fun j hj => ?_) hfb2 (by omega)) fun F' S' hh => hh
    rw [hdrop, hF j hj]
    simp only [jW]
    rw [if_neg (fun h => hk2 h.1), show k - 1 + 1 = k by omega]
  ·refine aT (by simp only [↓aH,aJ,rE,↓reduceIte, rA, Aa (show ¬ (0 : Int) ≤ (k : Int) - 1 by omega)]) (cC ?_)
   simp only [↓aH,aJ,rE,↓reduceIte, rA]
   have hk0 : k = 0 := by omega
   subst hk0
   exact ⟨rfl, hX, Fl, hkN, hFl, hF, hfb, hfbX, by refine ⟨?_,?_,?_⟩<;>simp only [↓aH,aJ,rE,↓reduceIte,rA,p0,p3,p4]⟩
 rintro o ⟨F, inr⟩ S2 ⟨rfl, q0, s2, Fl, _, hFl, hF, hfb, hfb2, p0, p3, p4⟩
 simp only at q0 p0 p3 p4
 subst q0
 have hFeq : Fl = jE g := by
  unfold jE
  refine En (by simp [hFl]) fun j j1 j2 => ?_
  have h1 := hF j (by omega)
  rw [Ac, Ab j1, Dk] at h1
  rw [List.getElem_map, List.getElem_range]
  exact h1
 subst hFeq
 have hW2 := hW.same s2
 have hn2 := aM.same (E := cL) cB hn s2
 have hi2 := aM.same (E := dB) cQ hi s2
 try simp only [↓aH,aJ,rE,↓reduceIte, rA]
 refine aD (bN (Q := fun o A' X => (o = .normal ∧ aMU S2 wb (.sl S.nx 0 g.infos.length g.infos.length false) nv g 0 A' X) ∨ (o = .ret ∧ Same S2 X ∧ (∃ x ∈ g.nodes, mis g x) ∧ aC 2 A'.F = .int .i64 10)) (aD (aP ?_)) ?_)
 ·simp only [↓aH,aJ,rE,↓reduceIte, rA, p0, aS, aR, aA, aB, eY hW2.1, hn2.len]
  refine aU (cI (aMU S2 wb (.sl S.nx 0 g.infos.length g.infos.length false) nv g) ?_ g.nodes.length _ _ ⟨rfl, Same.refl _, 0, by omega, fun x hx => (by simp at hx), by refine ⟨?_,?_,?_,?_,?_⟩<;>simp only [↓aH,aJ,rE,↓reduceIte,rA,p0,p3]⟩)
  clear p0 p3 p4
  rintro k ⟨F, inr⟩ X ⟨q0, hX, i, hik, hm, p0, p3, p47, p48, p49⟩
  simp only at q0 p0 p3 p47 p48 p49
  subst q0
  refine cF ?_
  simp only [↓aH,aJ,rE,↓reduceIte, rA, p48, p49]
  by_cases hlt : i < g.nodes.length
  ·refine aD (aY (by simp only [↓aH,aJ,rE,↓reduceIte, rA, Ad (show (i : Int) < ((g.nodes.length : Nat) : Int) by omega)]) (aN ?_))
   simp only [↓aH,aJ,rE,↓reduceIte, rA]
   obtain ⟨x, hx⟩ : ∃ x, g.nodes[i]? = some x := ⟨_, Ab hlt⟩
   have hxm := Bx hx
   obtain ⟨e, b, q, hia, hb, he, ⟨a, bb, cc, rfl, ha, hbb, hcc⟩, hag, _⟩ := aM.at (aM.same (E := cL) cB hn2 hX) (by decide) hx
   have w1 : IntKind.i64.wrap ((i : Int) + 1) = ((i + 1 : Nat) : Int) := by rw [wrap_i64 (by omega) (by omega)]; omega
   refine aD (aU (aD (aP ?_)))
   simp only [↓aH,aJ,rE,↓reduceIte, rA, p47, p49, aG, hia, hag]
   refine dC ?_
   intro X1 x1 m1 d1
   refine dU (b := X.nx) (by simp only [↓aH,aJ,rE,↓reduceIte, rA]) (by simp only [↓aH,aJ,rE,↓reduceIte, rA]; exact bK _) d1 rfl rfl ?_
   intro X2 x2 m2 d2
   simp only [↓aH,aJ,rE,↓reduceIte, rA]
   have hX2 : Same X X2 := x2.same x1 (Af _)
   have hS2X := hX.trans hX2
   have hWX := hW2.same hS2X
   have hla := (ha.same hX2).len
   have hsa := bO.self ha
   have hsi := aM.self hi
   refine aD (bN (Q := fun o A' Y => o = .normal ∧ A'.inr = false ∧ Same X2 Y ∧ aC 0 A'.F = .ptr wb 0 ∧ aC 3 A'.F = .sl S.nx 0 g.infos.length g.infos.length false ∧ aC 47 A'.F = nv ∧ aC 48 A'.F = .int .i64 ((g.nodes.length : Nat) : Int) ∧ aC 49 A'.F = .int .i64 (i : Int) ∧ aC 73 A'.F = .bool (decide (mis g x))) (gE ?_) ?_)
   ·by_cases hk2 : x.kind = 2
    ·obtain ⟨i0, i1⟩ := hok x hxm hk2
     obtain ⟨n, hn'⟩ : ∃ n : Nat, x.info = (n : Int) := ⟨x.info.toNat, by omega⟩
     have hni : n < g.infos.length := by omega
     obtain ⟨y, hy⟩ : ∃ y, g.infos[n]? = some y := ⟨_, Ab hni⟩
     obtain ⟨e', b', q', hia', hb', he', rfl, hag', _⟩ := aM.at (aM.same (E := dB) cQ hi2 hS2X) (by decide) hy
     have hya : infoAt g x.info = y := by unfold infoAt; rw [hn', Ac, show ((n : Int)).toNat = n from rfl, hy]; rfl
     have hmis : decide (mis g x) = decide (¬ (y.player = x.player ∧ y.actions = ((x.next.length : Nat) : Int))) := by
      rw [Ce, Db, Db]
      unfold mis
      rw [hya]
      exact ⟨fun h => h.2, fun h => ⟨hk2, h⟩⟩
     rw [hmis]
     rw [hn'] at d2
     have hs2 : cO (.agg [.int .i64 y.player, .int .i64 y.actions]) (.agg [.int .i64 y.player, .int .i64 y.actions]) = true := aHH (dO ..) (dO ..)
     simp only [↓aH,aJ,rE,↓reduceIte, rA, p0, p3, p47, p48, p49, aS, bH, aR, aA, aO, aB, fD d2, eY d2, fP d2, eV d2, fP hWX.1, aG, hia', hag', hla, hsa, hsi, hs2, Aj, lO, aMg, cT, aH2, Ad hk2]
     exact Same.nx _ _
    ·rw [Aa (show ¬ mis g x from fun h => hk2 h.1)]
     simp only [↓aH,aJ,rE,↓reduceIte, rA, p0, p3, p47, p48, p49, aA, aO, aB, fD d2, Aa hk2]
     exact Same.nx _ _
   clear p0 p3 p47 p48 p49
   rintro o ⟨F, inr⟩ Y ⟨rfl, q0, hY, p0, p3, p47, p48, p49, pb⟩
   simp only at q0 p0 p3 p47 p48 p49 pb
   subst q0
   have hS2Y := hS2X.trans hY
   try simp only [↓aH,aJ,rE,↓reduceIte, rA]
   by_cases hmx : mis g x
   ·refine aY (by simp only [↓aH,aJ,rE,↓reduceIte, rA, pb, Ad hmx]) ?_
    refine cF ?_
    simp only [↓aH,aJ,rE,↓reduceIte, rA]
    refine bD ?_
    simp only [↓aH,aJ,rE,↓reduceIte, rA]
    exact .inr ⟨hS2Y, x, hxm, hmx⟩
   ·refine aT (by simp only [↓aH,aJ,rE,↓reduceIte, rA, pb, Aa hmx]) (aN ?_)
    try simp only [↓aH,aJ,rE,↓reduceIte, rA]
    refine aP ?_
    simp only [↓aH,aJ,rE,↓reduceIte, rA, p49, w1]
    refine ⟨k - 1, by omega, rfl, hS2Y, i + 1, by omega, fun y hy => ?_, by refine ⟨?_,?_,?_,?_,?_⟩<;>simp only [↓aH,aJ,rE,↓reduceIte,rA,p0,p3,p47,p48]⟩
    rw [Cl, hx] at hy
    rcases Bh.1 hy with h | h
    ·exact hm y h
    ·simp at h; rw [h]; exact hmx
  ·refine aD (aT (by simp only [↓aH,aJ,rE,↓reduceIte, rA, Aa (show ¬ (i : Int) < ((g.nodes.length : Nat) : Int) by omega)]) (cC ?_))
   simp only [↓aH,aJ,rE,↓reduceIte, rA]
   have hk0 : k = 0 := by omega
   subst hk0
   exact .inl ⟨rfl, hX, i, hik, hm, by refine ⟨?_,?_,?_,?_,?_⟩<;>simp only [↓aH,aJ,rE,↓reduceIte,rA,p0,p3,p47,p48,p49]⟩
 clear p0 p3 p4
 rintro o ⟨F, inr⟩ X (⟨rfl, q0, hX, i, hik, hm, p0, p3, p47, p48, p49⟩ | ⟨rfl, hX, hmx, p2⟩)
 rotate_left
 ·simp only at p2
  simp only [↓aH,aJ,rE,↓reduceIte, rA, p2]
  unfold wU
  rw [if_pos hmx]
  exact ⟨rfl, s2.trans hX⟩
 simp only at q0 p0 p3
 subst q0
 rw [Bn (by omega)] at hm
 unfold wU
 rw [if_neg (fun ⟨x, h1, h2⟩ => hm x h1 h2)]
 have sX := s2.trans hX
 have hfX : X.h.get S.nx = some (.cells (bB (jE g)) false 0) := by rw [hX.2 _ hfb2]; exact hfb
 have hrow := uI (N := g.infos.length) hfX (Ae hfb2 hX.1) hFl
 try simp only [↓aH,aJ,rE,↓reduceIte, rA]
 refine jH ?_
 simp only [↓aH,aJ,rE,↓reduceIte, rA, p3]
 refine bJ ?_
 simp only [↓aH,aJ,rE,↓reduceIte, rA]
 refine aW (aAE H hrow (by omega)) ?_
 rintro _ Y ⟨rfl, hY⟩
 rw [hY]
 try simp only [↓aH,aJ,rE,↓reduceIte, rA]
 by_cases h0 : (0 : Int) ∈ jE g
 ·rw [if_pos h0]
  refine aY (by simp only [↓aH,aJ,rE,↓reduceIte, rA, Ad h0]) ?_
  refine cF ?_
  simp only [↓aH,aJ,rE,↓reduceIte, rA]
  refine bD ?_
  simp only [↓aH,aJ,rE,↓reduceIte, rA]
  exact sX
 rw [if_neg h0]
 refine aT (by simp only [↓aH,aJ,rE,↓reduceIte, rA, Aa h0]) (aN ?_)
 try simp only [↓aH,aJ,rE,↓reduceIte, rA]
 refine jH ?_
 simp only [↓aH,aJ,rE,↓reduceIte, rA, p3]
 refine bJ ?_
 simp only [↓aH,aJ,rE,↓reduceIte, rA]
 refine aW (aEy H hrow (by omega)) ?_
 rintro _ Y ⟨⟨t, rfl, ht⟩, hY⟩
 simp only [↓aH,aJ,rE,↓reduceIte, rA, gS]
 cases t with
 | false =>
  rw [if_neg (fun h => by have := ht.2 h; cases this)]
  refine aY (by simp only [↓aH,aJ,rE,↓reduceIte, rA]; rfl) ?_
  refine cF ?_
  simp only [↓aH,aJ,rE,↓reduceIte, rA]
  refine bD ?_
  simp only [↓aH,aJ,rE,↓reduceIte, rA]
  exact sX.trans hY
 | true =>
  rw [if_pos (ht.1 rfl)]
  refine aT (by simp only [↓aH,aJ,rE,↓reduceIte, rA]; rfl) (aN ?_)
  try simp only [↓aH,aJ,rE,↓reduceIte, rA]
  refine cF ?_
  simp only [↓aH,aJ,rE,↓reduceIte, rA]
  refine bD ?_
  simp only [↓aH,aJ,rE,↓reduceIte, rA]
  exact sX.trans hY
def pJ (g : bF) : Prop := g.players < 1 ∨ (4 : Int) < g.players ∨ ((g.nodes.length : Nat) : Int) < 1 ∨ (2000 : Int) < ((g.nodes.length : Nat) : Int) ∨ (200 : Int) < ((g.infos.length : Nat) : Int)
instance badGDec (g : bF) : Decidable (pJ g) := by unfold pJ; exact inferInstance
def mB (ps : Int) (ni : Nat) : List cM → Int
 | [] => 0
 | x :: l => if iG ps ni x ≠ 0 then iG ps ni x else mB ps ni l
def fK (g : bF) : Option (List cE) := eS g.nodes.length (dN g) (g.nodes.length + 1) 0 (-1) 0
noncomputable def dF (g : bF) : Int :=
 if pJ g then 2 else if mB g.players g.infos.length g.nodes ≠ 0 then mB g.players g.infos.length g.nodes else
 match fK g with
 | none => 9
 | some T => if T.length ≠ g.nodes.length then 9 else if 40 < aAe 0 T then 5 else wU g
theorem jM {ps : Int} {ni : Nat} : ∀ {l : List cM}, mB ps ni l = 0 → ∀ x ∈ l, iG ps ni x = 0
 | [], _, x, hx => by cases hx
 | y :: l, h, x, hx => by
  simp only [mB] at h
  split at h
  ·rename_i hne; exact absurd h hne
  ·rename_i he
   rcases Br.1 hx with rfl | hx
   ·exact Es.1 he
   ·exact jM h x hx
theorem aCr {ps : Int} {ni : Nat} {x : cM} (h : iG ps ni x = 0) : x.next.length ≤ 1000 := by
 unfold iG at h
 split at h
 ·split at h
  ·cases h
  ·rename_i hb
   unfold pO at hb
   omega
 ·split at h
  ·split at h
   ·cases h
   ·rename_i hb
    unfold tN at hb
    omega
  ·split at h
   ·split at h
    ·cases h
    ·rename_i hb
     unfold qV at hb
     omega
   ·cases h
theorem aCk {ps : Int} {ni : Nat} {x : cM} (h : iG ps ni x = 0) (h2 : x.kind = 2) : 0 ≤ x.info ∧ x.info < ni := by
 unfold iG at h
 rw [if_neg (by omega), if_pos h2] at h
 split at h
 ·cases h
 ·split at h
  ·cases h
  ·omega
theorem stc {S : St} {b p : Nat} {w : AV} {cs : List AV} {o : Bool} {sz : Nat} (h : S.h.get b = some (.cells cs o sz)) (hp : p < cs.length) : nQ (.ptr b p) 1 [w] S = some (.undef, ⟨S.h.set b (some (.cells (cs.set p w) o sz)), S.nx⟩) := by
 have hput : put cs p [w] = some (cs.set p w) := by
  rw [put_eq, if_pos (by simp; omega)]
  congr 1
  rw [List.set_eq_take_append_cons_drop, if_pos hp]
  simp
 simp only [nQ, oP, h, aE, yQ, hput]
 rfl
theorem wK {W : Nat → Prop} {h0 h' : T AB} {base m i : Nat} {l : List AO} {F : Fr} {S : St} {ps ps' : List gL} {last : Option Nat} {Q : Fr → St → List gL → Prop} {x v : cK} {b p sz : Nat} {w : AV} {cs : List AV} {o : Bool} (hfl : cD m ps S.h = (ps', h')) (h : jX last m = true) (hx : x.val F = .ptr b p) (hv : (v.val F).cells = some [w]) (hb : h'.get b = some (.cells cs o sz)) (hp : p < cs.length) (hW : W b)
  (hr : fJ fns W h0 base l (i + 1) F ⟨h'.set b (some (.cells (cs.set p w) o sz)), S.nx⟩ ps' (some i) Q) : fJ fns W h0 base (⟨none, .x (.st 1 x v), none, m⟩ :: l) i F S ps last Q := by
 refine tD (S1 := ⟨h'.set b (some (.cells (cs.set p w) o sz)), S.nx⟩) h ?_ ?_ ?_
 ·rw [hfl, hv, aE, hx]; exact stc (S := ⟨h', S.nx⟩) hb hp
 ·rw [hfl]
  refine ⟨Af _, fun c hc hw => ?_⟩
  simp only
  rw [T.get_set, if_neg (show ¬ c = b from fun e => hw (by rw [e]; exact hW))]
 ·rw [hfl]; exact hr
theorem vH {h : T AB} {b : Nat} {x0 x1 x2 : AV} {o : Bool} {s : Nat} (hb : h.get b = some (.cells [x0, x1, x2] o s)) : fH (.ptr b (0 + 0)) false 1 h = some x0 := ldc hb rfl
theorem kI {h : T AB} {b : Nat} {x0 x1 x2 : AV} {o : Bool} {s : Nat} (hb : h.get b = some (.cells [x0, x1, x2] o s)) : fH (.ptr b (0 + 1)) false 1 h = some x1 := ldc hb rfl
theorem oC {h : T AB} {b : Nat} {x0 x1 x2 : AV} {o : Bool} {s : Nat} (hb : h.get b = some (.cells [x0, x1, x2] o s)) : fH (.ptr b (0 + 2)) false 1 h = some x2 := ldc hb rfl
theorem jF {h : T AB} {b : Nat} {x0 x1 x2 : AV} {o : Bool} {s : Nat} (hb : h.get b = some (.cells [x0, x1, x2] o s)) : fH (.ptr b 0) true 3 h = some (.agg [x0, x1, x2]) := pS hb rfl
theorem uZ {m j id : Nat} {bl : AB} {ps : List gL} {h : T AB} (ht : Nat.testBit m j = false) : cD m (⟨j, id, bl⟩ :: ps) h = (⟨j, id, bl⟩ :: (cD m ps h).1, (cD m ps h).2) := by
 conv => lhs; unfold cD
 rw [show Nat.testBit m (gL.mk j id bl).i = false from ht, aL]
theorem kG {m j id : Nat} {bl : AB} {ps : List gL} {h : T AB} (ht : Nat.testBit m j = true) : cD m (⟨j, id, bl⟩ :: ps) h = cD m ps (h.set id (some bl)) := by
 conv => lhs; unfold cD
 rw [show Nat.testBit m (gL.mk j id bl).i = true from ht, aF]
theorem pZ {W : Nat → Prop} {h0 : T AB} {base i : Nat} {l : List AO} {F : Fr} {S : St} {ps : List gL} {last : Option Nat} {Q : Fr → St → List gL → Prop} {d : Option Nat} {t s bytes n : Nat} {z : List AV} {lo co : cK} (hl : eX (lo.val F) = some n) (hc : eX (co.val F) = some n) (h1 : n ≤ room) (h2 : bytes * n ≤ room)
  (hr : fJ fns W h0 base l (i + 1) (cJ d F (.sl (base + i) 0 n n false)) S (⟨i, base + i, .cells (repeatL z n) false 0⟩ :: ps) last Q) : aEx fns W h0 base (rO (.mkSlice t s bytes z lo co) F (base + i)) d l i F S ps last Q := by
 rw [qR hl hc h1 h2, nH]
 exact hr
theorem gQ.full {sel : cE → Int} {P P' : List Int} {T : List cE} (h : gQ sel P P' T 0) (hl : T.length = P.length) : P' = T.map sel := by
 refine En (by rw [Av, h.1, hl]) fun j j1 j2 => ?_
 have h1 := h.2 j
 rw [Av] at j2
 unfold sL at h1
 rw [if_pos (Ci _), Nat.sub_zero, Ab j2, Ac, Ab j1] at h1
 rw [List.getElem_map]
 exact h1
theorem aFK {g : bF} {T : List cE} (h : fK g = some T) : ∃ e L, T = (-1, 0, e) :: L := by
 unfold fK at h
 simp only [eS] at h
 split at h
 ·obtain ⟨L, _, rfl⟩ := Aw.1 h
  exact ⟨_, _, rfl⟩
 ·cases h
theorem aJc (m : Int) (L : List cE) : aFf m (L.map (·.2.1)) = aAe m L := by
 unfold aFf aAe
 rw [List.foldl_map]
theorem aKQ {P : T AB → Prop} {h : T AB} {w b1 b2 b3 : Nat} {c1 c2 c3 z : Option AB} (n1 : w ≠ b1) (n2 : w ≠ b2) (n3 : w ≠ b3) (n4 : b1 ≠ b2) (n5 : b1 ≠ b3) (n6 : b2 ≠ b3)
  (H : ∀ h' : T AB, h'.get w = c3 → h'.get b1 = z → h'.get b2 = z → h'.get b3 = z → (∀ c, c ≠ w → c ≠ b1 → c ≠ b2 → c ≠ b3 → h'.get c = h.get c) → P h') : P ((((((h.set b1 z).set w c1).set b2 z).set w c2).set b3 z).set w c3) := by
 refine H _ ?_ ?_ ?_ ?_ fun c h1 h2 h3 h4 => ?_
 ·rw [T.get_set, if_pos rfl]
 ·rw [T.get_set, if_neg (Cr n1), T.get_set, if_neg n5, T.get_set, if_neg (Cr n1), T.get_set, if_neg n4, T.get_set, if_neg (Cr n1), T.get_set, if_pos rfl]
 ·rw [T.get_set, if_neg (Cr n2), T.get_set, if_neg n6, T.get_set, if_neg (Cr n2), T.get_set, if_pos rfl]
 ·rw [T.get_set, if_neg (Cr n3), T.get_set, if_pos rfl]
 ·rw [T.get_set, if_neg h1, T.get_set, if_neg h4, T.get_set, if_neg h1, T.get_set, if_neg h3, T.get_set, if_neg h1, T.get_set, if_neg h2]
def aMw (S2 : St) (gb wb : Nat) (nv : AV) (g : bF) (k : Nat) (A : bT) (X : St) : Prop := A.inr = false ∧ Same S2 X ∧ ∃ i, i + k = g.nodes.length ∧ mB g.players g.infos.length g.nodes = mB g.players g.infos.length (g.nodes.drop i) ∧ aC 1 A.F = .ptr gb 0 ∧ aC 4 A.F = .ptr wb 0 ∧ aC 40 A.F = nv ∧ aC 41 A.F = .int .i64 ((g.nodes.length : Nat) : Int) ∧ aC 42 A.F = .int .i64 (i : Int)
def aLm (S S' : St) (p nv iv : AV) (g : bF) : Prop := ∃ (wb pb db lb : Nat) (T : List cE), p = .ptr wb 0 ∧ S.nx ≤ wb ∧ fK g = some T ∧ T.length = g.nodes.length ∧ WK S' wb pb db lb g.nodes.length g.players nv iv (T.map (·.1)) (T.map (·.2.1)) (T.map (·.2.2))
theorem aEY {S : St} {nv iv : AV} {g : bF} (H : Has fns) (hn : aM 6 cL S nv g.nodes) (hi : aM 2 dB S iv g.infos) (hln : g.nodes.length ≤ 100000) :
  iM fns (.fn 131 [] []) [.agg [.int .i64 g.players, nv, iv]] S fun r S' => Same S S' ∧ ∃ p, r = .tup [p, .int .i64 (dF g)] ∧ (dF g = 0 → aLm S S' p nv iv g) := by
 refine cV H.f131 (by simp) ?_
 simp only [↓sU,sD,rE,↓reduceIte,rA]
 refine cF ?_
 refine eQ (by simp only [↓sU,sD,rE,↓reduceIte,rA]; exact bK _) ?_
 intro S1 s1 n1 c1
 simp only [↓sU,sD,rE,↓reduceIte,rA]
 have hnl := hn.len
 have hil := hi.len
 refine aD (aD (bN (Q := fun o A' X => o = .normal ∧ A'.inr = false ∧ X = S1 ∧ aC 1 A'.F = .ptr S.nx 0 ∧ aC 35 A'.F = .bool (decide (pJ g))) (aP ?_) ?_))
 ·by_cases h1 : g.players < 1
  ·rw [Ad (show pJ g from .inl h1)]
   simp only [↓sU,sD,rE,↓reduceIte,rA, aA, aB, vH c1, kI c1, oC c1, hnl, hil, Ad h1]
  by_cases h2 : (4 : Int) < g.players
  ·rw [Ad (show pJ g from .inr (.inl h2))]
   simp only [↓sU,sD,rE,↓reduceIte,rA, aA, aB, vH c1, kI c1, oC c1, hnl, hil, Aa h1, Ad h2]
  by_cases h3 : ((g.nodes.length : Nat) : Int) < 1
  ·rw [Ad (show pJ g from .inr (.inr (.inl h3)))]
   simp only [↓sU,sD,rE,↓reduceIte,rA, aA, aB, vH c1, kI c1, oC c1, hnl, hil, Aa h1, Aa h2, Ad h3]
  by_cases h4 : (2000 : Int) < ((g.nodes.length : Nat) : Int)
  ·rw [Ad (show pJ g from .inr (.inr (.inr (.inl h4))))]
   simp only [↓sU,sD,rE,↓reduceIte,rA, aA, aB, vH c1, kI c1, oC c1, hnl, hil, Aa h1, Aa h2, Aa h3, Ad h4]
  by_cases h5 : (200 : Int) < ((g.infos.length : Nat) : Int)
  ·rw [Ad (show pJ g from .inr (.inr (.inr (.inr h5))))]
   simp only [↓sU,sD,rE,↓reduceIte,rA, aA, aB, vH c1, kI c1, oC c1, hnl, hil, Aa h1, Aa h2, Aa h3, Aa h4, Ad h5]
  ·rw [Aa (show ¬ pJ g by unfold pJ; omega)]
   simp only [↓sU,sD,rE,↓reduceIte,rA, aA, aB, vH c1, kI c1, oC c1, hnl, hil, Aa h1, Aa h2, Aa h3, Aa h4, Aa h5]
 rintro o ⟨F, inr⟩ X ⟨rfl, q0, hX, p1, pb⟩
 simp only at q0 p1 pb
 subst q0
 rw [hX]
 clear hX
 try simp only [↓sU,sD,rE,↓reduceIte,rA]
 by_cases bad : pJ g
 ·have hE : dF g = 2 := by unfold dF; rw [if_pos bad]
  rw [hE]
  refine aY (by simp only [↓sU,sD,rE,↓reduceIte,rA, pb, Ad bad]) ?_
  refine cF ?_
  simp only [↓sU,sD,rE,↓reduceIte,rA]
  refine bD ?_
  simp only [↓sU,sD,rE,↓reduceIte,rA]
  exact ⟨s1, _, rfl, fun h => by cases h⟩
 refine aT (by simp only [↓sU,sD,rE,↓reduceIte,rA, pb, Aa bad]) (aN ?_)
 try simp only [↓sU,sD,rE,↓reduceIte,rA]
 have hps : 1 ≤ g.players ∧ g.players ≤ 4 := by unfold pJ at bad; omega
 have hN : g.nodes.length ≤ 2000 := by unfold pJ at bad; omega
 have hN0 : 0 < g.nodes.length := by unfold pJ at bad; omega
 have hI : g.infos.length ≤ 200 := by unfold pJ at bad; omega
 have hbd : ∀ (F : Fr) (h : T AB), aC 36 F = .agg [.int .i64 g.players, nv, iv] → gR (.build [.int .i64 0, .nilsl, .nilsl, .nilsl, .nilsl, .nilsl] [(0, 3, .t 36)]) F h = some (.agg [.int .i64 g.players, nv, iv, .nilsl, .nilsl, .nilsl]) := fun F h he => by
  show (bE (eF _ (dJ F [(0, 3, .t 36)])) fun cs => some (AV.agg cs)) = _
  simp only [dJ, show (cK.t 36).val F = .agg [.int .i64 g.players, nv, iv] from he]
  rfl
 refine cF ?_
 simp only [↓aH,aJ,rE,↓reduceIte, rA, p1, jF c1, hbd]
 refine eQ (by simp only [↓aH,aJ,rE,↓reduceIte]; exact bK _) ?_
 intro S2 s2 n2 c2
 simp only [↓sU,sD,rE,↓reduceIte,rA]
 have sS2 : Same S S2 := s1.trans s2
 have hW : pF S2 S1.nx g.players nv iv .nilsl .nilsl .nilsl := ⟨c2, by omega⟩
 have hn2 := aM.same (E := cL) cB hn sS2
 have gl2 : S.nx < S2.nx := by omega
 have c1' : S2.h.get S.nx = some (.cells [.int .i64 g.players, nv, iv] false 0) := by rw [s2.2 _ (by omega)]; exact c1
 refine aD (bN (Q := fun o A' X => (o = .normal ∧ aMw S2 S.nx S1.nx nv g 0 A' X) ∨ (o = .ret ∧ Same S2 X ∧ mB g.players g.infos.length g.nodes ≠ 0 ∧ aC 2 A'.F = .nilp ∧ aC 3 A'.F = .int .i64 (mB g.players g.infos.length g.nodes))) (aD (aP ?_)) ?_)
 ·simp only [↓sU,sD,rE,↓reduceIte,rA, p1, aA, aB, kI c1', hnl]
  refine aU (cI (aMw S2 S.nx S1.nx nv g) ?_ g.nodes.length _ _ ⟨rfl, Same.refl _, 0, by omega, by rw [Dk], by refine ⟨?_,?_,?_,?_,?_⟩<;>simp only [↓sU,sD,rE,↓reduceIte,rA,p1]⟩)
  clear p1 pb
  rintro k ⟨F, inr⟩ X ⟨q0, hX, i, hik, hE, p1, p4, p40, p41, p42⟩
  simp only at q0 p1 p4 p40 p41 p42
  subst q0
  refine cF ?_
  simp only [↓sU,sD,rE,↓reduceIte,rA, p41, p42]
  by_cases hlt : i < g.nodes.length
  ·refine aD (aY (by simp only [↓sU,sD,rE,↓reduceIte,rA, Ad (show (i : Int) < ((g.nodes.length : Nat) : Int) by omega)]) (aN ?_))
   simp only [↓sU,sD,rE,↓reduceIte,rA]
   obtain ⟨x, hx⟩ : ∃ x, g.nodes[i]? = some x := ⟨_, Ab hlt⟩
   obtain ⟨e, b, q, hia, hb, he, hNE, hag, _⟩ := aM.at (aM.same (E := cL) cB hn2 hX) (by decide) hx
   have hdrop : g.nodes.drop i = x :: g.nodes.drop (i + 1) := by
    rw [Cj hlt]
    congr 1
    rw [Ab hlt] at hx
    exact Bq hx
   have w1 : IntKind.i64.wrap ((i : Int) + 1) = ((i + 1 : Nat) : Int) := by rw [wrap_i64 (by omega) (by omega)]; omega
   refine aD (aU (aD (aP ?_)))
   simp only [↓aH,aJ,rE,↓reduceIte, rA, p40, p42, aG, hia, hag]
   refine dC ?_
   intro X1 x1 m1 d1
   refine dU (b := X.nx) (by simp only [↓aH,aJ,rE,↓reduceIte, rA]) (by simp only [↓aH,aJ,rE,↓reduceIte, rA]; exact bK _) d1 rfl he ?_
   intro X2 x2 m2 d2
   simp only [↓aH,aJ,rE,↓reduceIte, rA]
   have hX2 : Same X X2 := x2.same x1 (Af _)
   refine cF ?_
   simp only [↓sU,sD,rE,↓reduceIte,rA, p4, pS d2 he]
   refine bJ ?_
   simp only [↓sU,sD,rE,↓reduceIte,rA]
   refine aW (aHe H (cB hNE hX2) (hW.same (hX.trans hX2)) hps hil (by omega) (aM.self hi)) ?_
   rintro _ Y ⟨rfl, hY⟩
   have hSY := (hX.trans hX2).trans hY
   rw [hdrop] at hE
   simp only [mB] at hE
   try simp only [↓sU,sD,rE,↓reduceIte,rA]
   refine cF ?_
   simp only [↓sU,sD,rE,↓reduceIte,rA]
   by_cases he0 : iG g.players g.infos.length x = 0
   ·rw [if_neg (fun h => h he0)] at hE
    refine aT (by simp only [↓sU,sD,rE,↓reduceIte,rA, Aa (show ¬ iG g.players g.infos.length x ≠ 0 from fun h => h he0)]) (aN ?_)
    try simp only [↓sU,sD,rE,↓reduceIte,rA]
    refine aP ?_
    simp only [↓sU,sD,rE,↓reduceIte,rA, p42, w1]
    exact ⟨k - 1, by omega, rfl, hSY, i + 1, by omega, hE, by refine ⟨?_,?_,?_,?_,?_⟩<;>simp only [↓sU,sD,rE,↓reduceIte,rA,p1,p4,p40,p41]⟩
   ·rw [if_pos he0] at hE
    refine aY (by simp only [↓sU,sD,rE,↓reduceIte,rA, Ad (show iG g.players g.infos.length x ≠ 0 from he0)]) ?_
    refine cF ?_
    simp only [↓sU,sD,rE,↓reduceIte,rA]
    refine bD ?_
    simp only [↓sU,sD,rE,↓reduceIte,rA]
    exact .inr ⟨hSY, by rw [hE]; exact he0, by rw [hE]⟩
  ·refine aD (aT (by simp only [↓sU,sD,rE,↓reduceIte,rA, Aa (show ¬ (i : Int) < ((g.nodes.length : Nat) : Int) by omega)]) (cC ?_))
   simp only [↓sU,sD,rE,↓reduceIte,rA]
   have hk0 : k = 0 := by omega
   subst hk0
   exact .inl ⟨rfl, hX, i, hik, hE, by refine ⟨?_,?_,?_,?_,?_⟩<;>simp only [↓sU,sD,rE,↓reduceIte,rA,p1,p4,p40,p41,p42]⟩
 clear p1 pb
 rintro o ⟨F, inr⟩ X (⟨rfl, q0, hX, i, hik, hE, p1, p4, p40, p41, p42⟩ | ⟨rfl, hX, hne, p2, p3⟩)
 rotate_left
 ·simp only at p2 p3
  simp only [↓sU,sD,rE,↓reduceIte,rA, p2, p3]
  have hE : dF g = mB g.players g.infos.length g.nodes := by unfold dF; rw [if_neg bad, if_pos hne]
  rw [hE]
  exact ⟨sS2.trans hX, _, rfl, fun h => absurd h hne⟩
 simp only at q0 p1 p4
 subst q0
 rw [Cv (by omega)] at hE
 have hform : dF g = match fK g with | none => 9 | some T => if T.length ≠ g.nodes.length then 9 else if 40 < aAe 0 T then 5 else wU g := by
  conv => lhs; unfold dF
  rw [if_neg bad, if_neg (fun h => h hE)]
  first | done | (cases fK g <;> rfl)
 have sX := sS2.trans hX
 have cX : X.h.get S.nx = some (.cells [.int .i64 g.players, nv, iv] false 0) := by rw [hX.2 _ gl2]; exact c1'
 have wX := (hW.same hX).1
 have ltw := (hW.same hX).2
 have ltg : S.nx < X.nx := Ae gl2 hX.1
 have nwg : ¬ S.nx = S1.nx := by omega
 try simp only [↓sU,sD,rE,↓reduceIte,rA]
 refine aD (nJ (fun b => b = S1.nx) ?_)
 intro X1 x1 hx1 hm1
 simp only [↓sU,sD,rE,↓reduceIte,rA, p1, p4, aA, aO, aB, kI cX, ltg, nwg, Ax, hnl, aM.self hn]
 refine pZ (n := g.nodes.length) (by simp only [↓sU,sD,rE,↓reduceIte,rA, aG]) (by simp only [↓sU,sD,rE,↓reduceIte,rA, aG]) (by unfold room; omega) (by unfold room; omega) ?_
 simp only [↓sU,sD,rE,↓reduceIte,rA, p1, p4, aA, aO, aB, kI cX, ltg, nwg, Ax, hnl, aM.self hn]
 refine pZ (n := g.nodes.length) (by simp only [↓sU,sD,rE,↓reduceIte,rA, aG]) (by simp only [↓sU,sD,rE,↓reduceIte,rA, aG]) (by unfold room; omega) (by unfold room; omega) ?_
 simp only [↓sU,sD,rE,↓reduceIte,rA, p1, p4, aA, aO, aB, kI cX, ltg, nwg, Ax, hnl, aM.self hn]
 refine pZ (n := g.nodes.length) (by simp only [↓sU,sD,rE,↓reduceIte,rA, aG]) (by simp only [↓sU,sD,rE,↓reduceIte,rA, aG]) (by unfold room; omega) (by unfold room; omega) ?_
 simp only [↓sU,sD,rE,↓reduceIte,rA, p1, p4, aS, bH, aR, aA, aO, aB]
 have hz : repeatL [AV.int .i64 0] g.nodes.length = bB (List.replicate g.nodes.length 0) := by rw [repeatL_one]; simp [bB]
 rw [hz]
 have n6 : ¬ S1.nx = X.nx + 6 := by omega
 have n10 : ¬ S1.nx = X.nx + 10 := by omega
 have n14 : ¬ S1.nx = X.nx + 14 := by omega
 refine wK (b := S1.nx) (p := 3) (w := .sl (X.nx + 6) 0 g.nodes.length g.nodes.length false) (cs := [.int .i64 g.players, nv, iv, .nilsl, .nilsl, .nilsl]) (o := false) (sz := 0) ((uZ (show Nat.testBit 98425 14 = false by decide)).trans (by rw [uZ (show Nat.testBit 98425 10 = false by decide), kG (show Nat.testBit 98425 6 = true by decide), cA])) rfl (by simp only [↓sU,sD,rE,↓reduceIte,rA]) (by simp only [↓sU,sD,rE,↓reduceIte,rA]; rfl) (by rw [T.get_set, if_neg n6, hx1]; exact wX) (by simp) rfl ?_
 simp only [↓sU,sD,rE,↓reduceIte,rA, p1, p4, aS, bH, aR, aA, aO, aB]
 refine wK (b := S1.nx) (p := 4) (w := .sl (X.nx + 10) 0 g.nodes.length g.nodes.length false) (cs := [.int .i64 g.players, nv, iv, .sl (X.nx + 6) 0 g.nodes.length g.nodes.length false, .nilsl, .nilsl]) (o := false) (sz := 0) ((uZ (show Nat.testBit 1017851 14 = false by decide)).trans (by rw [kG (show Nat.testBit 1017851 10 = true by decide), cA])) rfl (by simp only [↓sU,sD,rE,↓reduceIte,rA]) (by simp only [↓sU,sD,rE,↓reduceIte,rA]; rfl) (by rw [T.get_set, if_neg n10, T.get_set, if_pos rfl]; rfl) (by simp) rfl ?_
 simp only [↓sU,sD,rE,↓reduceIte,rA, p1, p4, aS, bH, aR, aA, aO, aB]
 refine wK (b := S1.nx) (p := 5) (w := .sl (X.nx + 14) 0 g.nodes.length g.nodes.length false) (cs := [.int .i64 g.players, nv, iv, .sl (X.nx + 6) 0 g.nodes.length g.nodes.length false, .sl (X.nx + 10) 0 g.nodes.length g.nodes.length false, .nilsl]) (o := false) (sz := 0) ((kG (show Nat.testBit 8388607 14 = true by decide)).trans (cA _ _)) rfl (by simp only [↓sU,sD,rE,↓reduceIte,rA]) (by simp only [↓sU,sD,rE,↓reduceIte,rA]; rfl) (by rw [T.get_set, if_neg n14, T.get_set, if_pos rfl]; rfl) (by simp) rfl ?_
 simp only [↓sU,sD,rE,↓reduceIte,rA]
 refine aKQ (P := fun h' => kH fns _ _ ⟨h', X1.nx⟩ _) n6 n10 n14 (by omega) (by omega) (by omega) ?_
 intro Zh gw g1 g2 g3 gr
 have hm1 : X1.nx = X.nx + 24 := hm1
 have sZ : Same S ⟨Zh, X1.nx⟩ := ⟨by show S.nx ≤ X1.nx; have := sX.1; omega, fun c hc => by
  have := sX.1
  show Zh.get c = S.h.get c
  rw [gr c (by omega) (by omega) (by omega) (by omega), hx1]
  exact sX.2 c hc⟩
 have cZ : Zh.get S.nx = some (.cells [.int .i64 g.players, nv, iv] false 0) := by
  rw [gr _ (by omega) (by omega) (by omega) (by omega), hx1]
  exact cX
 have hK : WK ⟨Zh, X1.nx⟩ S1.nx (X.nx + 6) (X.nx + 10) (X.nx + 14) g.nodes.length g.players nv iv (List.replicate g.nodes.length 0) (List.replicate g.nodes.length 0) (List.replicate g.nodes.length 0) := ⟨⟨gw, by show S1.nx < X1.nx; omega⟩, g1, g2, g3, Ap .., Ap .., Ap .., by show _ < X1.nx; omega, by show _ < X1.nx; omega, by show _ < X1.nx; omega⟩
 generalize hZ : (⟨Zh, X1.nx⟩ : St) = Z at *
 have cZ : Z.h.get S.nx = some (.cells [.int .i64 g.players, nv, iv] false 0) := by rw [← hZ]; exact cZ
 have lz : S1.nx < Z.nx := hK.w.2
 have hall := jM hE
 refine jH ?_
 simp only [↓sU,sD,rE,↓reduceIte,rA, p1, p4, aA, aB, kI cZ]
 refine bJ ?_
 simp only [↓sU,sD,rE,↓reduceIte,rA]
 rw [show Int.negSucc 0 = (-1 : Int) from rfl]
 refine aW (aHp (rv := nv) H hn (by omega) (by have := sX.1; omega) (by have := sX.1; omega) (by have := sX.1; omega) (by omega) (by omega) (by omega) n6 n10 n14 hN (fun x hx => aCr (hall x hx)) (g.nodes.length + 1) (at_ := 0) (p := -1) (d := 0) (by omega) (by decide) (by decide) (by omega) sZ hK (by rw [Dk]; exact hn)) ?_
 rintro r Y ⟨hY, P', D', L', hKY, hres⟩
 have sY : Same S Y := hY.same sZ (by have := sX.1; omega) (by have := sX.1; omega) (by have := sX.1; omega)
 have hres' : match fK g with | some T => (∃ v, r = .tup [v, .bool true] ∧ aM 6 cL S v (g.nodes.drop (0 + T.length))) ∧ gQ (·.1) (List.replicate g.nodes.length 0) P' T 0 ∧ gQ (·.2.1) (List.replicate g.nodes.length 0) D' T 0 ∧ gQ (·.2.2) (List.replicate g.nodes.length 0) L' T 0 | none => r = .tup [.nilsl, .bool false] := hres
 clear hres
 cases hw : fK g with
 | none =>
  rw [hw] at hres' hform
  subst hres'
  simp only at hform
  rw [hform]
  simp only [↓sU,sD,rE,↓reduceIte,rA, vE, vD]
  refine cF ?_
  simp only [↓sU,sD,rE,↓reduceIte,rA, gS, Ea]
  refine aY (by simp only [↓sU,sD,rE,↓reduceIte,rA]) ?_
  refine cF ?_
  simp only [↓sU,sD,rE,↓reduceIte,rA]
  refine bD ?_
  simp only [↓sU,sD,rE,↓reduceIte,rA]
  exact ⟨sY, _, rfl, fun h => by cases h⟩
 | some T =>
  rw [hw] at hres' hform
  obtain ⟨⟨v, rfl, hv⟩, rP, rD, rL⟩ := hres'
  simp only at hform
  have hTl := (xO (show eS g.nodes.length (dN g) (g.nodes.length + 1) 0 (-1) 0 = some T from hw)).1
  have hvl := hv.len
  rw [Cq] at hvl
  simp only [↓sU,sD,rE,↓reduceIte,rA, vE, vD]
  refine cF ?_
  simp only [↓sU,sD,rE,↓reduceIte,rA, gS, De, hvl]
  by_cases hT : T.length = g.nodes.length
  rotate_left
  ·rw [hform, if_pos hT]
   refine aY (by simp only [↓sU,sD,rE,↓reduceIte,rA, Ad (show (0 : Int) < ((g.nodes.length - (0 + T.length) : Nat) : Int) by omega)]) ?_
   refine cF ?_
   simp only [↓sU,sD,rE,↓reduceIte,rA]
   refine bD ?_
   simp only [↓sU,sD,rE,↓reduceIte,rA]
   exact ⟨sY, _, rfl, fun h => by cases h⟩
  rw [if_neg (fun h => h hT)] at hform
  refine aT (by simp only [↓sU,sD,rE,↓reduceIte,rA, Aa (show ¬ (0 : Int) < ((g.nodes.length - (0 + T.length) : Nat) : Int) by omega)]) (aN ?_)
  try simp only [↓sU,sD,rE,↓reduceIte,rA]
  have eP := rP.full (by rw [Ap]; exact hT)
  have eD := rD.full (by rw [Ap]; exact hT)
  have eL := rL.full (by rw [Ap]; exact hT)
  subst eP eD eL
  have hrow := uI hKY.gd hKY.bd hKY.ld
  obtain ⟨e, L, hTe⟩ := aFK hw
  have hmax : aFf ((T.map (·.2.1)).getD 0 0) ((T.map (·.2.1)).drop 1) = aAe 0 T := by
   rw [hTe]
   show aFf 0 (L.map (·.2.1)) = aAe 0 ((-1, 0, e) :: L)
   rw [aJc, aCC]
   rfl
  refine jH ?_
  simp only [↓sU,sD,rE,↓reduceIte,rA, p1, p4, aS, aR, aA, aB, fL hKY.w.1]
  refine bJ ?_
  simp only [↓sU,sD,rE,↓reduceIte,rA]
  refine aW (aH6 H hrow (by rw [Av]; omega) (by rw [Av]; omega)) ?_
  rintro _ Y2 ⟨rfl, hY2⟩
  rw [hY2, hmax]
  simp only [↓sU,sD,rE,↓reduceIte,rA]
  by_cases h40 : 40 < aAe 0 T
  ·rw [hform, if_pos h40]
   refine aY (by simp only [↓sU,sD,rE,↓reduceIte,rA, Ad h40]) ?_
   refine cF ?_
   simp only [↓sU,sD,rE,↓reduceIte,rA]
   refine bD ?_
   simp only [↓sU,sD,rE,↓reduceIte,rA]
   exact ⟨sY, _, rfl, fun h => by cases h⟩
  rw [if_neg h40] at hform
  refine aT (by simp only [↓sU,sD,rE,↓reduceIte,rA, Aa h40]) (aN ?_)
  try simp only [↓sU,sD,rE,↓reduceIte,rA]
  refine cF ?_
  simp only [↓sU,sD,rE,↓reduceIte,rA, p1, p4]
  refine bJ ?_
  simp only [↓sU,sD,rE,↓reduceIte,rA]
  refine aW (aHJ H hKY.w (aM.same (E := cL) cB hn sY) (aM.same (E := dB) cQ hi sY) hN hI (fun x hx h2 => aCk (hall x hx) h2)) ?_
  rintro _ Y3 ⟨rfl, hY3⟩
  try simp only [↓sU,sD,rE,↓reduceIte,rA, p4]
  refine bD ?_
  simp only [↓sU,sD,rE,↓reduceIte,rA]
  rw [hform]
  refine ⟨sY.trans hY3, _, rfl, fun _ => ⟨S1.nx, _, _, _, T, rfl, by omega, hw, hT, ⟨hKY.w.same hY3, by rw [hY3.2 _ hKY.bp]; exact hKY.gp, by rw [hY3.2 _ hKY.bd]; exact hKY.gd, by rw [hY3.2 _ hKY.bl]; exact hKY.gl, hKY.lp, hKY.ld, hKY.ll, Ae hKY.bp hY3.1, Ae hKY.bd hY3.1, Ae hKY.bl hY3.1⟩⟩⟩
theorem aB2 {S : St} {wb : Nat} {ps : Int} {n i p d l : AV} (H : Has fns) (hW : pF S wb ps n i p d l) : iM fns (.fn 159 [] []) [.ptr wb 0] S fun r S' => r = p ∧ Same S S' := by
 refine cV H.f159 (by simp) ?_
 simp only [↓sU,sD,rE,↓reduceIte,rA]
 refine cF ?_
 simp only [↓sU,sD,rE,↓reduceIte,rA]
 refine cF ?_
 simp only [↓sU,sD,rE,↓reduceIte,rA, aS, aR, aA, aB, eV hW.1]
 refine bD ?_
 simp only [↓sU,sD,rE,↓reduceIte,rA]
 exact Same.refl _
def aK7 (S S' : St) (v : AV) (g : bF) : Prop := (dF g ≠ 0 → v = .nilsl) ∧ (dF g = 0 → ∃ T, fK g = some T ∧ T.length = g.nodes.length ∧ bO .i64 S' v (T.map (·.1)))
theorem aDy {S : St} {nv iv : AV} {g : bF} (H : Has fns) (hn : aM 6 cL S nv g.nodes) (hi : aM 2 dB S iv g.infos) (hln : g.nodes.length ≤ 100000) :
  iM fns (.fn 119 [] []) [.agg [.int .i64 g.players, nv, iv]] S fun r S' => ∃ v, r = .tup [v, .int .i64 (dF g)] ∧ Same S S' ∧ aK7 S S' v g := by
 refine cV H.f119 (by simp) ?_
 simp only [↓sU,sD,rE,↓reduceIte,rA]
 refine cF ?_
 refine eQ (by simp only [↓sU,sD,rE,↓reduceIte,rA]; exact bK _) ?_
 intro S1 s1 n1 c1
 simp only [↓sU,sD,rE,↓reduceIte,rA]
 refine cF ?_
 simp only [↓sU,sD,rE,↓reduceIte,rA, jF c1]
 refine bJ ?_
 simp only [↓sU,sD,rE,↓reduceIte,rA]
 have hn1 := aM.same (E := cL) cB hn s1
 have hi1 := aM.same (E := dB) cQ hi s1
 refine aW (Q := fun r X => ∃ v, r = .tup [v, .int .i64 (dF g)] ∧ Same S1 X ∧ aK7 S1 X v g) ?_ ?_
 ·refine cV H.f158 (by simp) ?_
  simp only [↓sU,sD,rE,↓reduceIte,rA]
  refine cF ?_
  refine eQ (by simp only [↓sU,sD,rE,↓reduceIte,rA]; exact bK _) ?_
  intro S2 s2 n2 c2
  simp only [↓sU,sD,rE,↓reduceIte,rA]
  refine cF ?_
  simp only [↓sU,sD,rE,↓reduceIte,rA, jF c2]
  refine bJ ?_
  simp only [↓sU,sD,rE,↓reduceIte,rA]
  refine aW (aEY H (aM.same (E := cL) cB hn1 s2) (aM.same (E := dB) cQ hi1 s2) hln) ?_
  rintro _ X ⟨hX, p, rfl, hok⟩
  simp only [↓sU,sD,rE,↓reduceIte,rA, vE, vD]
  refine jH ?_
  simp only [↓sU,sD,rE,↓reduceIte,rA]
  by_cases h0 : dF g = 0
  ·refine aT (by simp only [↓sU,sD,rE,↓reduceIte,rA, Aa (show ¬ dF g ≠ 0 from fun h => h h0)]) (aN ?_)
   try simp only [↓sU,sD,rE,↓reduceIte,rA]
   obtain ⟨wb, pb, db, lb, T, rfl, _, hT, hTl, hK⟩ := hok h0
   refine cF ?_
   simp only [↓sU,sD,rE,↓reduceIte,rA]
   refine bJ ?_
   simp only [↓sU,sD,rE,↓reduceIte,rA]
   refine aW (aB2 H hK.w) ?_
   rintro _ Y ⟨rfl, hY⟩
   try simp only [↓sU,sD,rE,↓reduceIte,rA]
   refine bD ?_
   simp only [↓sU,sD,rE,↓reduceIte,rA]
   rw [h0]
   refine ⟨_, rfl, (s2.trans hX).trans hY, fun h => absurd h0 h, fun _ => ⟨T, hT, hTl, ?_⟩⟩
   exact (uI hK.gp hK.bp hK.lp).same hY
  ·refine aY (by simp only [↓sU,sD,rE,↓reduceIte,rA, Ad (show dF g ≠ 0 from h0)]) ?_
   refine cF ?_
   simp only [↓sU,sD,rE,↓reduceIte,rA]
   refine cF ?_
   simp only [↓sU,sD,rE,↓reduceIte,rA]
   refine bD ?_
   simp only [↓sU,sD,rE,↓reduceIte,rA]
   exact ⟨_, rfl, s2.trans hX, fun _ => rfl, fun h => absurd h h0⟩
 rintro _ X ⟨v, rfl, hX, hP⟩
 simp only [↓sU,sD,rE,↓reduceIte,rA, vE, vD]
 refine bD ?_
 simp only [↓sU,sD,rE,↓reduceIte,rA]
 exact ⟨_, rfl, s1.trans hX, hP⟩
theorem aME {S : St} {t : Nat} {x : AV} {o : Bool} {sz : Nat} (h : S.h.get t = some (.cells [x] o sz)) : eE (.sl t 0 1 1 false) S.h 1 1 = some [x] := by
 show bE (cP S.h t) (fun cs => cut cs 0 (1 * 1)) = _
 unfold cP
 rw [h]
 rfl
theorem gN.push {bytes t : Nat} {S0 S : St} {v : AV} {l : List Int} {w : Int} (h : gN 1 S0 S v l.length (bB l)) (hS : Same S0 S) (ht : S.h.get t = some (.cells [.int .i64 w] false 0)) (h1 : l.length + 1 ≤ room) (h2 : (l.length + 1) * bytes ≤ room) :
  ∃ v' S', gF bytes 1 v (.sl t 0 1 1 false) S = some (v', S') ∧ gN 1 S0 S' v' (l ++ [w]).length (bB (l ++ [w])) ∧ aQ v' = some S.nx ∧ S'.nx = S.nx + 1 ∧ ∀ c, c < S.nx → aQ v ≠ some c → S'.h.get c = S.h.get c := by
 have hs := aME ht
 have e0 : bB (l ++ [w]) = bB l ++ [.int .i64 w] := by simp [bB]
 have e1 : (l ++ [w]).length = l.length + 1 := by simp
 rw [e0, e1]
 generalize hn : l.length = n at *
 rcases h with ⟨rfl, rfl, h0⟩ | ⟨b, rfl, hb0, hb, hg, hc⟩
 ·refine ⟨.sl S.nx 0 1 1 true, ⟨S.h.set S.nx (some (.cells [.int .i64 w] true 1)), S.nx + 1⟩, ?_, .inr ⟨S.nx, by rw [Am], hS.1, by simp, ?_, ?_⟩, rfl, rfl, fun c hc _ => (Same.alloc S _).2 c hc⟩
  ·show (bE (some 1) fun j => bE (eE (.sl t 0 1 1 false) S.h 1 j) fun new => yS .nilsl bytes 1 j new S) = _
   rw [aE, hs, aE]
   show oS bytes 1 1 [.int .i64 w] S = _
   unfold oS
   rw [show Nat.beq 1 0 = false from rfl, aL, Ak (by omega), aF, Ak (by rw [Am] at h2; exact h2), aF]
   rfl
  ·simp only
   rw [T.get_set, if_pos rfl, h0]
   rfl
  ·rw [h0]; rfl
 ·refine ⟨.sl S.nx 0 (n + 1) (n + 1) true, ⟨(S.h.set b none).set S.nx (some (.cells (bB l ++ [.int .i64 w]) true 1)), S.nx + 1⟩, ?_, .inr ⟨S.nx, rfl, hS.1, by simp, ?_, by rw [Ah, hc, Aq, Dq, Eo]⟩, rfl, rfl, fun c hc hne => ?_⟩
  ·show (bE (some 1) fun j => bE (eE (.sl t 0 1 1 false) S.h 1 j) fun new => yS (.sl b 0 n n true) bytes 1 j new S) = _
   rw [aE, hs, aE]
   show jU bytes 1 b 0 n n true 1 [.int .i64 w] S = _
   unfold jU
   have e2 : Nat.ble (n + 1) n = false := by rw [Cb]; intro h; have := Ay h; omega
   rw [e2, aL, Ak h1, aF, Ak h2, aF, hg, aE]
   have e3 : cut (bB l) 0 (n * 1) = some (bB l) := by
    unfold cut
    rw [fO, fZ, Dk, if_pos (by omega), Bn (by omega)]
   have e4 : Nat.beq (0 + n * 1) (jY (bB l)) = true := by rw [gG, hc, Bd]; omega
   simp only [tQ, e3, aE, aF, e4, show Nat.beq 1 1 = true from rfl, grown, fM]
  ·simp only
   rw [T.get_set, if_pos rfl]
  ·simp only
   have : c ≠ b := fun e => hne (by rw [e]; rfl)
   rw [T.get_set, if_neg (by omega), T.get_set, if_neg this]
theorem gN.self {k n : Nat} {S0 S : St} {v : AV} {cs : List AV} (h : gN k S0 S v n cs) : cO v v = true := by
 rcases h with ⟨rfl, _⟩ | ⟨b, rfl, _⟩
 ·rfl
 ·exact mK ..
theorem gN.cells {k n : Nat} {S0 S : St} {v : AV} {cs : List AV} (h : gN k S0 S v n cs) : v.cells = some [v] := by
 rcases h with ⟨rfl, _⟩ | ⟨b, rfl, _⟩ <;> rfl
theorem cS {h : T AB} {b p : Nat} {cs : List AV} {x : AV} {o : Bool} {s : Nat} (hb : h.get b = some (.cells cs o s)) (hj : cs[p]? = some x) : fH (.ptr b p) false 1 h = some x := by
 have := ldc (j := p) hb hj
 rw [Am] at this
 exact this
def SlE (S : St) (cs : List AV) (l : List Int) : Prop := ∃ a, cs = [a] ∧ bO .i64 S a l
theorem mU : aB5 SlE := fun ⟨a, h, h1⟩ hs => ⟨a, h, h1.same hs⟩
theorem gN.is {S0 S : St} {v : AV} {l : List Int} (h : gN 1 S0 S v l.length (bB l)) : bO .i64 S v l := by
 rcases h with ⟨rfl, h0, _⟩ | ⟨b, rfl, h1, h2, h3, h4⟩
 ·exact .inl ⟨Bo.1 h0, .inl rfl⟩
 ·refine .inr ⟨b, 0, l.length, true, bB l, rfl, Af _, h2, by unfold cP; rw [h3]; rfl, fun i x hi => ?_⟩
  rw [Am]
  unfold bB
  rw [Bc, hi]
  rfl
theorem gN.blk {k n c : Nat} {S0 S : St} {v : AV} {cs : List AV} (h : gN k S0 S v n cs) (hc : aQ v = some c) : S0.nx ≤ c ∧ c < S.nx ∧ S.h.get c = some (.cells cs true k) := by
 rcases h with ⟨rfl, _⟩ | ⟨b, rfl, h1, h2, h3, h4⟩
 ·cases hc
 ·cases hc; exact ⟨h1, h2, h3⟩
theorem gN.off {k n c s : Nat} {S0 S : St} {v : AV} {cs cs' : List AV} (h : gN k S0 S v n cs) (hc : S.h.get c = some (.cells cs' false s)) : aQ v ≠ some c := fun e => by
 have := (h.blk e).2.2
 rw [hc] at this
 cases this
theorem aGE {x y z : AV} (h1 : cO x x = true) (h2 : cO y y = true) (h3 : cO z z = true) : cO (.agg [x, y, z]) (.agg [x, y, z]) = true := by
 simp [cO, mQ, h1, h2, h3]
theorem aEq {g : bF} {j : Nat} (hj : j < g.infos.length) : (jE g).getD j 0 = ((jW g.nodes 0 j : Nat) : Int) := by
 unfold jE
 rw [Ac, Bc, Dh hj]
 rfl
end Go.Ev.Gl
