import Derived.Test.YtoojnpjgnnpllaaGl6
open Nat renaming reduceEqDiff → rE, reduceAdd → rA
set_option maxHeartbeats 4000000
set_option linter.unusedSimpArgs false
set_option linter.unusedVariables false
namespace Go.Ev.Gl
variable {fns : T cA}
theorem aFO {S : St} {a : Int} (H : Has fns) : iQ fns (.fn 185 [] []) [.int .i64 a] S fun r S' => r = .bool false ∧ S' = S := by
 refine cW H.f185 (by simp) ?_
 simp only [↓aJ,aH,rE,↓reduceIte]
 refine cI ?_
 simp only [↓aJ,aH,rE,↓reduceIte]
 refine cI ?_
 simp only [↓aJ,aH,rE,↓reduceIte, decide_eq_false (show ¬ a ≠ a from fun h => h rfl)]
 refine aY ?_
 simp only [↓aJ,aH,rE,↓reduceIte]
theorem aIk {S : St} {a b : Int} (H : Has fns) : iQ fns (.fn 182 [] []) [.int .i64 a, .int .i64 b] S fun r S' => r = .bool (decide (a < b)) ∧ S' = S := by
 refine cW H.f182 (by simp) ?_
 simp only [↓aJ,aH,rE,↓reduceIte]
 refine cI ?_
 simp only [↓aJ,aH,rE,↓reduceIte]
 refine cI ?_
 simp only [↓aJ,aH,rE,↓reduceIte]
 refine bL ?_
 simp only [↓aJ,aH,rE,↓reduceIte]
 refine aW (aFO H) ?_
 rintro _ X ⟨rfl, hX⟩
 rw [hX]
 simp only [↓aJ,aH,rE,↓reduceIte]
 refine aY ?_
 simp only [↓aJ,aH,rE,↓reduceIte]
def aFW (m : Int) (l : List Int) : Int := l.foldl mx m
def aNc (S : St) (v : AV) (l : List Int) (m0 : Int) (k : Nat) (A : bT) (X : St) : Prop := A.inr = false ∧ X = S ∧ ∃ i, i + k = l.length ∧ 0 < i ∧ aC 0 A.F = v ∧ aC 3 A.F = .int .i64 (aFW m0 ((l.take i).drop 1)) ∧ aC 4 A.F = .int .i64 (i : Int)
theorem aJf {S : St} {v : AV} {l : List Int} (H : Has fns) (hl : bS .i64 S v l) (hne : 0 < l.length) (hlen : l.length ≤ 1000000) : iQ fns (.fn 164 [] []) [v] S fun r S' => r = .int .i64 (aFW (l.getD 0 0) (l.drop 1)) ∧ S' = S := by
 refine cW H.f164 (by simp) ?_
 simp only [↓aJ,aH,rE,↓reduceIte]
 refine cI ?_
 simp only [↓aJ,aH,rE,↓reduceIte]
 refine kK ?_
 simp only [↓aJ,aH,rE,↓reduceIte, hl.len, Int.ofNat_eq_natCast]
 refine aX (by simp only [↓aJ,aH,rE,↓reduceIte, decide_eq_false (show ¬ ((l.length : Nat) : Int) < 1 by omega)]) (aO ?_)
 try simp only [↓aJ,aH,rE,↓reduceIte]
 have hia := hl.iaddr hne
 have hld := hl.ld hne
 refine cI ?_
 simp only [↓aJ,aH,rE,↓reduceIte, aCC, hia, hld]
 refine kK ?_
 simp only [↓aJ,aH,rE,↓reduceIte]
 refine bE (cS (aNc S v l (l.getD 0 0)) ?_ (l.length - 1) _ _ ⟨rfl, rfl, 1, by omega, by decide, by simp only [↓aJ,aH,rE,↓reduceIte], by simp only [↓aJ,aH,rE,↓reduceIte]; rw [List.drop_of_length_le (by rw [List.length_take]; omega)]; rfl, by simp only [↓aJ,aH,rE,↓reduceIte]⟩)
 rintro k ⟨F, inr⟩ X ⟨q0, hX, i, hik, hi0, p0, p3, p4⟩
 simp only at q0 p0 p3 p4
 subst q0
 rw [hX]
 refine kK ?_
 simp only [↓aJ,aH,rE,↓reduceIte, p0, p4, hl.len, Int.ofNat_eq_natCast]
 by_cases hi : i < l.length
 ·refine bB (by simp only [↓aJ,aH,rE,↓reduceIte, decide_eq_true (show (i : Int) < ((l.length : Nat) : Int) by omega)]) (aO ?_)
  try simp only [↓aJ,aH,rE,↓reduceIte]
  have hia := hl.iaddr hi
  have hld := hl.ld hi
  have htk : (l.take (i + 1)).drop 1 = (l.take i).drop 1 ++ [l.getD i 0] := by
   rw [List.take_add_one, List.getElem?_eq_getElem hi, List.drop_append, List.length_take, show 1 - min i l.length = 0 by omega, List.getD_eq_getElem?_getD, List.getElem?_eq_getElem hi]
   rfl
  have w1 : IntKind.i64.wrap ((i : Int) + 1) = ((i + 1 : Nat) : Int) := by rw [wrap_i64 (by omega) (by omega)]; omega
  refine aE (bE (aR ?_))
  simp only [↓aJ,aH,rE,↓reduceIte, p0, p3, p4, aL, hia, hld, aL4, aGH]
  refine aR ?_
  simp only [↓aJ,aH,rE,↓reduceIte, p4, w1]
  refine ⟨k - 1, by omega, rfl, rfl, i + 1, by omega, by omega, by simp only [↓aJ,aH,rE,↓reduceIte, p0], ?_, by simp only [↓aJ,aH,rE,↓reduceIte]⟩
  simp only [↓aJ,aH,rE,↓reduceIte]
  rw [htk]
  unfold aFW
  rw [List.foldl_append]
  rfl
 ·refine aX (by simp only [↓aJ,aH,rE,↓reduceIte, decide_eq_false (show ¬ (i : Int) < ((l.length : Nat) : Int) by omega)]) (cL ?_)
  simp only [↓aJ,aH,rE,↓reduceIte]
  rw [List.take_of_length_le (by omega)] at p3
  refine cI ?_
  simp only [↓aJ,aH,rE,↓reduceIte, p3]
  refine aY ?_
  simp only [↓aJ,aH,rE,↓reduceIte]
def aNz (S : St) (v : AV) (l : List Int) (z : Int) (k : Nat) (A : bT) (X : St) : Prop := A.inr = false ∧ X = S ∧ ∃ i, i + k = l.length ∧ ¬ z ∈ l.take i ∧ aC 0 A.F = v ∧ aC 1 A.F = .int .i64 z ∧ aC 7 A.F = .int .i64 ((l.length : Nat) : Int) ∧ aC 8 A.F = .int .i64 (i : Int)
theorem aEw {S : St} {v : AV} {l : List Int} {z : Int} (H : Has fns) (hl : bS .i64 S v l) (hlen : l.length ≤ 1000000) : iQ fns (.fn 181 [] []) [v, .int .i64 z] S fun r S' => (∃ j, r = .int .i64 j ∧ (0 ≤ j ↔ z ∈ l)) ∧ S' = S := by
 refine cW H.f181 (by simp) ?_
 simp only [↓aJ,aH,rE,↓reduceIte]
 refine cI ?_
 simp only [↓aJ,aH,rE,↓reduceIte]
 refine kK ?_
 simp only [↓aJ,aH,rE,↓reduceIte, hl.len, Int.ofNat_eq_natCast]
 refine bE (cS (aNz S v l z) ?_ l.length _ _ ⟨rfl, rfl, 0, by omega, by simp, by simp only [↓aJ,aH,rE,↓reduceIte], by simp only [↓aJ,aH,rE,↓reduceIte], by simp only [↓aJ,aH,rE,↓reduceIte], by simp only [↓aJ,aH,rE,↓reduceIte]⟩)
 rintro k ⟨F, inr⟩ X ⟨q0, hX, j, hjk, ha, p0, p1, p7, p8⟩
 simp only at q0 p0 p1 p7 p8
 subst q0
 rw [hX]
 refine cI ?_
 simp only [↓aJ,aH,rE,↓reduceIte, p7, p8]
 by_cases hj : j < l.length
 ·refine aE (bB (by simp only [↓aJ,aH,rE,↓reduceIte, decide_eq_true (show (j : Int) < ((l.length : Nat) : Int) by omega)]) (aO ?_))
  simp only [↓aJ,aH,rE,↓reduceIte]
  have hia := hl.iaddr hj
  have hld := hl.ld hj
  have hgd : l.getD j 0 = l[j] := by rw [List.getD_eq_getElem?_getD, List.getElem?_eq_getElem hj]; rfl
  have htk : l.take (j + 1) = l.take j ++ [l.getD j 0] := by rw [List.take_add_one, List.getElem?_eq_getElem hj, hgd]; rfl
  have hmem : l.getD j 0 ∈ l := by rw [hgd]; exact List.getElem_mem hj
  generalize l.getD j 0 = w at *
  have w1 : IntKind.i64.wrap ((j : Int) + 1) = ((j + 1 : Nat) : Int) := by rw [wrap_i64 (by omega) (by omega)]; omega
  refine aE (bE (aE (aR ?_)))
  simp only [↓aJ,aH,rE,↓reduceIte, p8]
  refine cI ?_
  simp only [↓aJ,aH,rE,↓reduceIte, p0, p1, aL, hia, hld]
  by_cases ho : z = w
  ·refine bB (by simp only [↓aJ,aH,rE,↓reduceIte, decide_eq_true ho]) ?_
   refine cI ?_
   simp only [↓aJ,aH,rE,↓reduceIte]
   refine aY ?_
   simp only [↓aJ,aH,rE,↓reduceIte]
   exact ⟨_, rfl, ⟨fun _ => by rw [ho]; exact hmem, fun _ => by omega⟩⟩
  ·refine aX (by simp only [↓aJ,aH,rE,↓reduceIte, decide_eq_false ho]) (aO ?_)
   try simp only [↓aJ,aH,rE,↓reduceIte]
   refine aR ?_
   simp only [↓aJ,aH,rE,↓reduceIte, p8, w1]
   refine ⟨k - 1, by omega, rfl, rfl, j + 1, by omega, ?_, by simp only [↓aJ,aH,rE,↓reduceIte, p0], by simp only [↓aJ,aH,rE,↓reduceIte, p1], by simp only [↓aJ,aH,rE,↓reduceIte, p7], by simp only [↓aJ,aH,rE,↓reduceIte]⟩
   rw [htk]
   intro h
   rcases List.mem_append.1 h with h | h
   ·exact ha h
   ·simp at h; exact ho h
 ·refine aE (aX (by simp only [↓aJ,aH,rE,↓reduceIte, decide_eq_false (show ¬ (j : Int) < ((l.length : Nat) : Int) by omega)]) (cL ?_))
  simp only [↓aJ,aH,rE,↓reduceIte]
  rw [List.take_of_length_le (by omega)] at ha
  refine cI ?_
  simp only [↓aJ,aH,rE,↓reduceIte]
  refine aY ?_
  simp only [↓aJ,aH,rE,↓reduceIte]
  exact ⟨_, rfl, ⟨fun h => absurd h (by decide), fun h => absurd h ha⟩⟩
theorem aBQ {S : St} {v : AV} {l : List Int} {z : Int} (H : Has fns) (hl : bS .i64 S v l) (hlen : l.length ≤ 1000000) : iQ fns (.fn 176 [] []) [v, .int .i64 z] S fun r S' => r = .bool (decide (z ∈ l)) ∧ S' = S := by
 refine cW H.f176 (by simp) ?_
 simp only [↓aJ,aH,rE,↓reduceIte]
 refine cI ?_
 simp only [↓aJ,aH,rE,↓reduceIte]
 refine cI ?_
 simp only [↓aJ,aH,rE,↓reduceIte]
 refine bL ?_
 simp only [↓aJ,aH,rE,↓reduceIte]
 refine aW (aEw H hl hlen) ?_
 rintro _ Y ⟨⟨j, rfl, hj⟩, hY⟩
 rw [hY]
 have hd : decide ((0 : Int) ≤ j) = decide (z ∈ l) := by rw [Bool.eq_iff_iff, decide_eq_true_iff, decide_eq_true_iff]; exact hj
 simp only [↓aJ,aH,rE,↓reduceIte, hd]
 refine aY ?_
 simp only [↓aJ,aH,rE,↓reduceIte]
def aMU (l : List Int) (a b : Nat) : Prop := ∀ i, a < i → i < b → ¬ l.getD i 0 < l.getD (i - 1) 0
def aJv (l : List Int) : Prop := aMU l 0 l.length
def aNV (S : St) (v : AV) (l : List Int) (k : Nat) (A : bT) (X : St) : Prop := A.inr = false ∧ Same S X ∧ ∃ i : Int, (k : Int) = max i 0 ∧ -1 ≤ i ∧ i < max 1 (l.length : Int) ∧ aMU l i.toNat l.length ∧ aC 0 A.F = v ∧ aC 3 A.F = .int .i64 i
theorem aEC {S : St} {v : AV} {l : List Int} (H : Has fns) (hl : bS .i64 S v l) (hlen : l.length ≤ 1000000) : iQ fns (.fn 177 [] []) [v] S fun r S' => (∃ t, r = .bool t ∧ (t = true ↔ aJv l)) ∧ Same S S' := by
 refine cW H.f177 (by simp) ?_
 simp only [↓aJ,aH,rE,↓reduceIte]
 refine cI ?_
 simp only [↓aJ,aH,rE,↓reduceIte]
 have w0 : IntKind.i64.wrap (((l.length : Nat) : Int) - 1) = ((l.length : Nat) : Int) - 1 := wrap_i64 (by omega) (by omega)
 refine kK ?_
 simp only [↓aJ,aH,rE,↓reduceIte, hl.len, Int.ofNat_eq_natCast, w0]
 refine bE (cS (aNV S v l) ?_ (l.length - 1) _ _ ⟨rfl, Same.refl S, ((l.length : Nat) : Int) - 1, by omega, by omega, by omega, fun i h1 h2 => by omega, by simp only [↓aJ,aH,rE,↓reduceIte], by simp only [↓aJ,aH,rE,↓reduceIte]⟩)
 rintro k ⟨F, inr⟩ X ⟨q0, hX, i, hik, hi1, hi2, hup, p0, p3⟩
 simp only at q0 p0 p3
 subst q0
 have hlX := hl.same hX
 refine kK ?_
 simp only [↓aJ,aH,rE,↓reduceIte, p3]
 by_cases hi : 0 < i
 ·refine bB (by simp only [↓aJ,aH,rE,↓reduceIte, decide_eq_true hi]) (aO ?_)
  try simp only [↓aJ,aH,rE,↓reduceIte]
  obtain ⟨n, rfl⟩ : ∃ n : Nat, i = (n : Int) := ⟨i.toNat, by omega⟩
  have h1 : n < l.length := by omega
  have h0 : n - 1 < l.length := by omega
  have w1 : IntKind.i64.wrap ((n : Int) - 1) = ((n - 1 : Nat) : Int) := by rw [wrap_i64 (by omega) (by omega)]; omega
  have ia1 := hlX.iaddr h1
  have ia0 := hlX.iaddr h0
  have ld1 := hlX.ld h1
  have ld0 := hlX.ld h0
  have hself := bS.self hl
  obtain ⟨b, hb⟩ : ∃ b off cap o, v = .sl b off l.length cap o ∧ b < X.nx := by
   rcases hlX with ⟨h0, _⟩ | ⟨b, off, cap, o, cs, rfl, _, hb, _⟩
   ·rw [h0] at h1; simp at h1
   ·exact ⟨b, off, cap, o, rfl, hb⟩
  obtain ⟨off, cap, o, rfl, hbX⟩ := hb
  simp only [aAt] at ia1 ia0 ld1 ld0
  refine aE (bE (aE (mT (fun _ => False) ?_)))
  intro S1 s1
  simp only [↓sU,sD,rE,↓reduceIte,rA, p0, p3, aL, ia1, w1, ia0, ld1, ld0, hbX, not_false_eq_true]
  refine gE rfl ?_
  simp only [↓sU,sD,rE,↓reduceIte,rA]
  refine aW (aIk H) ?_
  rintro _ Y ⟨rfl, hY⟩
  rw [hY]
  refine ⟨Same.refl _, ?_⟩
  try simp only [↓sU,sD,rE,↓reduceIte,rA]
  by_cases ho : l.getD n 0 < l.getD (n - 1) 0
  ·refine bB (by simp only [↓sU,sD,rE,↓reduceIte,rA, decide_eq_true ho]) ?_
   refine cI ?_
   simp only [↓sU,sD,rE,↓reduceIte,rA]
   refine aY ?_
   simp only [↓sU,sD,rE,↓reduceIte,rA]
   exact ⟨⟨_, rfl, ⟨fun h => (by cases h), fun h => absurd ho (h n (by omega) h1)⟩⟩, hX.trans s1⟩
  ·refine aX (by simp only [↓sU,sD,rE,↓reduceIte,rA, decide_eq_false ho]) (aO ?_)
   try simp only [↓sU,sD,rE,↓reduceIte,rA]
   refine aR ?_
   simp only [↓sU,sD,rE,↓reduceIte,rA, p3, w1]
   refine ⟨k - 1, by omega, rfl, hX.trans s1, ((n - 1 : Nat) : Int), by omega, by omega, by omega, fun j h1 h2 => ?_, by simp only [↓sU,sD,rE,↓reduceIte,rA, p0], by simp only [↓sU,sD,rE,↓reduceIte,rA]⟩
   by_cases hj : j = n
   ·rw [hj]; exact ho
   ·exact hup j (by omega) h2
 ·refine aX (by simp only [↓aJ,aH,rE,↓reduceIte, decide_eq_false hi]) (cL ?_)
  simp only [↓aJ,aH,rE,↓reduceIte]
  refine cI ?_
  simp only [↓aJ,aH,rE,↓reduceIte]
  refine aY ?_
  simp only [↓aJ,aH,rE,↓reduceIte]
  exact ⟨⟨_, rfl, ⟨fun _ j h1 h2 => hup j (by omega) h2, fun _ => rfl⟩⟩, hX⟩
end Go.Ev.Gl
namespace Go.Ev.Gl
variable {fns : T cA}
def lQ : List cM → Nat → Nat → Nat
 | [], _, _ => 0
 | x :: l, s, i => if x.kind = 2 ∧ x.info = (i : Int) then s + 1 else lQ l (s + 1) i
def jU (g : bG) : List Int := (List.range g.infos.length).map fun i => ((lQ g.nodes 0 i : Nat) : Int)
def infoAt (g : bG) (i : Int) : gR := g.infos.getD i.toNat ⟨0, 0⟩
def mis (g : bG) (x : cM) : Prop := x.kind = 2 ∧ ¬ ((infoAt g x.info).player = x.player ∧ (infoAt g x.info).actions = ((x.next.length : Nat) : Int))
instance misDec (g : bG) (x : cM) : Decidable (mis g x) := by unfold mis; exact inferInstance
open Classical in
noncomputable def aAJ (g : bG) : Int := if ∃ x ∈ g.nodes, mis g x then 10 else if (0 : Int) ∈ jU g then 18 else if aJv (jU g) then 0 else 9
def aKG (g : bG) : Prop := ∀ x ∈ g.nodes, x.kind = 2 → 0 ≤ x.info ∧ x.info < g.infos.length
theorem aIt (a b c d : Int) : mW .neq (.struct [(0, .int), (1, .int)]) (.agg [.int .i64 a, .int .i64 b]) (.agg [.int .i64 c, .int .i64 d]) = some (.bool (decide (¬ (a = c ∧ b = d)))) := by
 have k : ∀ y z : Int, xA .int (.int .i64 y) (.int .i64 z) = some (decide (y = z)) := fun y z => by
  show bO (keq .i64 .i64) (some (ieq y z)) none = _
  rw [gF, aG, lD]
  congr 1
 have e : eqv (.struct [(0, .int), (1, .int)]) (.agg [.int .i64 a, .int .i64 b]) (.agg [.int .i64 c, .int .i64 d]) = some (decide (a = c ∧ b = d)) := by
  show eqs [(0, .int), (1, .int)] [.int .i64 a, .int .i64 b] [.int .i64 c, .int .i64 d] = _
  unfold eqs
  show (match xA .int (.int .i64 a) (.int .i64 c) with | some true => _ | some false => _ | none => _) = _
  rw [k]
  by_cases h : a = c
  ·rw [decide_eq_true h]
   unfold eqs
   show (match xA .int (.int .i64 b) (.int .i64 d) with | some true => _ | some false => _ | none => _) = _
   rw [k]
   by_cases h2 : b = d
   ·rw [decide_eq_true h2, decide_eq_true ⟨h, h2⟩]; rfl
   ·rw [decide_eq_false h2, decide_eq_false (fun h3 => h2 h3.2)]
  ·rw [decide_eq_false h, decide_eq_false (fun h3 => h h3.1)]
 show aU (eqv (.struct [(0, .int), (1, .int)]) _ _) _ = _
 rw [e, aF]
 congr 2
 by_cases h : a = c ∧ b = d
 ·rw [decide_eq_true h, decide_eq_false (fun h2 => h2 h)]; rfl
 ·rw [decide_eq_false h, decide_eq_true h]; rfl
def aLW (S : St) (wb fb : Nat) (g : bG) (k : Nat) (A : bT) (X : St) : Prop := A.inr = false ∧ Same S X ∧ ∃ F : List Int, k ≤ g.nodes.length ∧ F.length = g.infos.length ∧ (∀ j, j < g.infos.length → F.getD j 0 = ((lQ (g.nodes.drop k) k j : Nat) : Int)) ∧ X.h.get fb = some (.cells (bD F) false 0) ∧ fb < X.nx ∧
 aC 0 A.F = .ptr wb 0 ∧ aC 3 A.F = .sl fb 0 g.infos.length g.infos.length false ∧ aC 4 A.F = .int .i64 ((k : Int) - 1)
def aMj (S1 : St) (wb : Nat) (fv nv : AV) (g : bG) (k : Nat) (A : bT) (X : St) : Prop := A.inr = false ∧ Same S1 X ∧ ∃ i, i + k = g.nodes.length ∧ (∀ x ∈ g.nodes.take i, ¬ mis g x) ∧ aC 0 A.F = .ptr wb 0 ∧ aC 3 A.F = fv ∧ aC 47 A.F = nv ∧ aC 48 A.F = .int .i64 ((g.nodes.length : Nat) : Int) ∧ aC 49 A.F = .int .i64 (i : Int)
set_option maxHeartbeats 4000000 in
theorem aG6 {S : St} {wb : Nat} {ps : Int} {nv iv pv dv lv : AV} {g : bG} (H : Has fns) (hW : qF S wb ps nv iv pv dv lv) (hn : aQ 6 cO S nv g.nodes) (hi : aQ 2 dB S iv g.infos) (hN : g.nodes.length ≤ 2000) (hI : g.infos.length ≤ 200) (hok : aKG g) :
  iQ fns (.fn 165 [] []) [.ptr wb 0] S fun r S' => r = .int .i64 (aAJ g) ∧ Same S S' := by
 refine cW H.f165 (by simp) ?_
 simp only [↓aJ,aH,rE,↓reduceIte, rA]
 refine cI ?_
 simp only [↓aJ,aH,rE,↓reduceIte, rA]
 refine cI ?_
 simp only [↓aJ,aH,rE,↓reduceIte, rA, aS, aT, aB, aA, fO hW.1, hi.len]
 refine kH (tA (n := g.infos.length) (by simp only [↓aJ,aH,rE,↓reduceIte, rA, aL]) (by simp only [↓aJ,aH,rE,↓reduceIte, rA, aL]) (by unfold room; omega) (by unfold room; omega)) ?_
 intro S1 s1 n1 c1
 simp only [↓aJ,aH,rE,↓reduceIte, rA]
 have hz : repeatL [AV.int .i64 0] g.infos.length = bD (List.replicate g.infos.length 0) := by rw [repeatL_one]; simp [bD]
 rw [hz] at c1
 have hW1 := hW.same s1
 have w0 : IntKind.i64.wrap (((g.nodes.length : Nat) : Int) - 1) = ((g.nodes.length : Nat) : Int) - 1 := wrap_i64 (by omega) (by omega)
 refine aE (bP (Q := fun o A' X => o = .normal ∧ aLW S wb S.nx g 0 A' X) (aE (aR ?_)) ?_)
 ·simp only [↓aJ,aH,rE,↓reduceIte, rA, aS, aT, aB, aA, eQ hW1.1, hn.len, w0]
  refine bE (cS (aLW S wb S.nx g) ?_ g.nodes.length _ _ ⟨rfl, s1, _, Nat.le_refl _, List.length_replicate .., fun j hj => ?_, c1, by omega, by simp only [↓aJ,aH,rE,↓reduceIte, rA], by simp only [↓aJ,aH,rE,↓reduceIte, rA], by simp only [↓aJ,aH,rE,↓reduceIte, rA]⟩)
  rotate_left
  ·rw [List.drop_of_length_le (Nat.le_refl _), List.getD_eq_getElem?_getD, List.getElem?_replicate]
   split <;> rfl
  rintro k ⟨F, inr⟩ X ⟨q0, hX, Fl, hkN, hFl, hF, hfb, hfbX, p0, p3, p4⟩
  simp only at q0 p0 p3 p4
  subst q0
  refine kK ?_
  simp only [↓aJ,aH,rE,↓reduceIte, rA, p4]
  by_cases hk : 0 < k
  ·refine bB (by simp only [↓aJ,aH,rE,↓reduceIte, rA, decide_eq_true (show (0 : Int) ≤ (k : Int) - 1 by omega)]) (aO ?_)
   try simp only [↓aJ,aH,rE,↓reduceIte, rA]
   have e1 : (k : Int) - 1 = ((k - 1 : Nat) : Int) := by omega
   rw [e1] at p4
   have hlt : k - 1 < g.nodes.length := by omega
   obtain ⟨x, hx⟩ : ∃ x, g.nodes[k - 1]? = some x := ⟨_, List.getElem?_eq_getElem hlt⟩
   have hxm := List.mem_of_getElem? hx
   have hWX := hW.same hX
   obtain ⟨e, b, q, hia, hb, he, ⟨a, bb, cc, rfl, ha, hbb, hcc⟩, hag, _⟩ := aQ.at (aQ.same (E := cO) cB hn hX) (by decide) hx
   have hdrop : g.nodes.drop (k - 1) = x :: g.nodes.drop k := by
    rw [List.drop_eq_getElem_cons hlt, show k - 1 + 1 = k by omega]
    congr 1
    rw [List.getElem?_eq_getElem hlt] at hx
    exact Option.some.inj hx
   have w1 : IntKind.i64.wrap (((k - 1 : Nat) : Int) + 1) = (k : Int) := by rw [wrap_i64 (by omega) (by omega)]; omega
   have w2 : IntKind.i64.wrap (((k - 1 : Nat) : Int) - 1) = ((k - 1 : Nat) : Int) - 1 := wrap_i64 (by omega) (by omega)
   refine aE (bE (aE (aR ?_)))
   simp only [↓aJ,aH,rE,↓reduceIte, rA, p0, p4, aS, aT, aB, aA, eQ hWX.1, aL, hia, hag]
   refine dD ?_
   intro X1 x1 m1 d1
   refine eH (b := X.nx) (by simp only [↓aJ,aH,rE,↓reduceIte, rA]) (by simp only [↓aJ,aH,rE,↓reduceIte, rA]; exact bK _) d1 rfl rfl ?_
   intro X2 x2 m2 d2
   simp only [↓aJ,aH,rE,↓reduceIte, rA]
   have hX2 : Same X X2 := x2.same x1 (Nat.le_refl _)
   have hfb2 : X2.h.get S.nx = some (.cells (bD Fl) false 0) := by rw [hX2.2 _ hfbX]; exact hfb
   refine cI ?_
   simp only [↓aJ,aH,rE,↓reduceIte, rA, aB, aA, fG d2]
   have hfin : ∀ (G : Fr) (Y : St) (Fl' : List Int), aC 0 G = .ptr wb 0 → aC 3 G = .sl S.nx 0 g.infos.length g.infos.length false → aC 4 G = .int .i64 ((k - 1 : Nat) : Int) → Same S Y → Fl'.length = g.infos.length → (∀ j, j < g.infos.length → Fl'.getD j 0 = ((lQ (g.nodes.drop (k - 1)) (k - 1) j : Nat) : Int)) → Y.h.get S.nx = some (.cells (bD Fl') false 0) → S.nx < Y.nx → qX fns [⟨(some 24),(.q (.mv (.t 4))),none,0⟩, ⟨(some 25),(.q (.bin .sub (.p .int) (.t 24) (.c (.int .i64 (.ofNat 1))))),none,0⟩, ⟨(some 4),(.q (.mv (.t 25))),none,0⟩] G Y fun F' S' => ∃ k', k' < k ∧ aLW S wb S.nx g k' ⟨F', false⟩ S' := fun G Y Fl' g0 g3 g4 hY h1 h2 h3 h4 => by
    simp only [↓aJ,aH,rE,↓reduceIte, rA, g4, w2]
    exact ⟨k - 1, by omega, rfl, hY, Fl', by omega, h1, h2, h3, h4, by simp only [↓aJ,aH,rE,↓reduceIte, rA, g0], by simp only [↓aJ,aH,rE,↓reduceIte, rA, g3], by simp only [↓aJ,aH,rE,↓reduceIte, rA]⟩
   by_cases hk2 : x.kind = 2
   ·refine bB (by simp only [↓aJ,aH,rE,↓reduceIte, rA, decide_eq_true hk2]) ?_
    obtain ⟨i0, i1⟩ := hok x hxm hk2
    obtain ⟨n, hn'⟩ : ∃ n : Nat, x.info = (n : Int) := ⟨x.info.toNat, by omega⟩
    have hni : n < g.infos.length := by omega
    rw [hn'] at d2
    have hif := gN (b := S.nx) (o := false) hni
    refine aR ?_
    simp only [↓aJ,aH,rE,↓reduceIte, rA, p0, p3, p4, aB, aA, fO d2, w1, aL, hif]
    refine fZ (fun call => by simp only [↓aJ,aH,rE,↓reduceIte, rA, dT, cV]; exact aAd (S := X2) hfb2 (by rw [hFl]; exact hni)) ?_
    simp only [↓aJ,aH,rE,↓reduceIte, rA]
    refine aR ?_
    refine aFy (hfin _ _ (Fl.set n (k : Int)) (by simp only [↓aJ,aH,rE,↓reduceIte, rA, p0]) (by simp only [↓aJ,aH,rE,↓reduceIte, rA, p3]) (by simp only [↓aJ,aH,rE,↓reduceIte, rA, p4]) (((hX.trans hX2)).put (Nat.le_refl _) _) (by rw [List.length_set]; exact hFl) (fun j hj => ?_) (by simp only; rw [T.get_set, if_pos rfl]) (by simp only; omega)) fun F' S' hh => hh
    rw [iD (by rw [hFl]; exact hni), hdrop, hF j hj]
    simp only [lQ]
    by_cases hjn : j = n
    ·rw [if_pos hjn, if_pos ⟨hk2, by rw [hn', hjn]⟩]; omega
    ·rw [if_neg hjn, if_neg (fun h => hjn (by omega)), show k - 1 + 1 = k by omega]
   ·refine aX (by simp only [↓aJ,aH,rE,↓reduceIte, rA, decide_eq_false hk2]) (aO ?_)
    try simp only [↓aJ,aH,rE,↓reduceIte, rA]
    refine aR ?_
    refine aFy (hfin _ X2 Fl (by simp only [↓aJ,aH,rE,↓reduceIte, rA, p0]) (by simp only [↓aJ,aH,rE,↓reduceIte, rA, p3]) (by simp only [↓aJ,aH,rE,↓reduceIte, rA, p4]) (hX.trans hX2) hFl (fun j hj => ?_) hfb2 (by omega)) fun F' S' hh => hh
    rw [hdrop, hF j hj]
    simp only [lQ]
    rw [if_neg (fun h => hk2 h.1), show k - 1 + 1 = k by omega]
  ·refine aX (by simp only [↓aJ,aH,rE,↓reduceIte, rA, decide_eq_false (show ¬ (0 : Int) ≤ (k : Int) - 1 by omega)]) (cL ?_)
   simp only [↓aJ,aH,rE,↓reduceIte, rA]
   have hk0 : k = 0 := by omega
   subst hk0
   exact ⟨rfl, hX, Fl, hkN, hFl, hF, hfb, hfbX, by simp only [↓aJ,aH,rE,↓reduceIte, rA, p0], by simp only [↓aJ,aH,rE,↓reduceIte, rA, p3], by simp only [↓aJ,aH,rE,↓reduceIte, rA, p4]⟩
 rintro o ⟨F, inr⟩ S2 ⟨rfl, q0, s2, Fl, _, hFl, hF, hfb, hfb2, p0, p3, p4⟩
 simp only at q0 p0 p3 p4
 subst q0
 have hFeq : Fl = jU g := by
  unfold jU
  refine List.ext_getElem (by simp [hFl]) fun j j1 j2 => ?_
  have h1 := hF j (by omega)
  rw [List.getD_eq_getElem?_getD, List.getElem?_eq_getElem j1, List.drop_zero] at h1
  rw [List.getElem_map, List.getElem_range]
  exact h1
 subst hFeq
 have hW2 := hW.same s2
 have hn2 := aQ.same (E := cO) cB hn s2
 have hi2 := aQ.same (E := dB) cU hi s2
 try simp only [↓aJ,aH,rE,↓reduceIte, rA]
 refine aE (bP (Q := fun o A' X => (o = .normal ∧ aMj S2 wb (.sl S.nx 0 g.infos.length g.infos.length false) nv g 0 A' X) ∨ (o = .ret ∧ Same S2 X ∧ (∃ x ∈ g.nodes, mis g x) ∧ aC 2 A'.F = .int .i64 10)) (aE (aR ?_)) ?_)
 ·simp only [↓aJ,aH,rE,↓reduceIte, rA, p0, aS, aT, aB, aA, eQ hW2.1, hn2.len]
  refine bE (cS (aMj S2 wb (.sl S.nx 0 g.infos.length g.infos.length false) nv g) ?_ g.nodes.length _ _ ⟨rfl, Same.refl _, 0, by omega, fun x hx => (by simp at hx), by simp only [↓aJ,aH,rE,↓reduceIte, rA, p0], by simp only [↓aJ,aH,rE,↓reduceIte, rA, p3], by simp only [↓aJ,aH,rE,↓reduceIte, rA], by simp only [↓aJ,aH,rE,↓reduceIte, rA], by simp only [↓aJ,aH,rE,↓reduceIte, rA]⟩)
  clear p0 p3 p4
  rintro k ⟨F, inr⟩ X ⟨q0, hX, i, hik, hm, p0, p3, p47, p48, p49⟩
  simp only at q0 p0 p3 p47 p48 p49
  subst q0
  refine cI ?_
  simp only [↓aJ,aH,rE,↓reduceIte, rA, p48, p49]
  by_cases hlt : i < g.nodes.length
  ·refine aE (bB (by simp only [↓aJ,aH,rE,↓reduceIte, rA, decide_eq_true (show (i : Int) < ((g.nodes.length : Nat) : Int) by omega)]) (aO ?_))
   simp only [↓aJ,aH,rE,↓reduceIte, rA]
   obtain ⟨x, hx⟩ : ∃ x, g.nodes[i]? = some x := ⟨_, List.getElem?_eq_getElem hlt⟩
   have hxm := List.mem_of_getElem? hx
   obtain ⟨e, b, q, hia, hb, he, ⟨a, bb, cc, rfl, ha, hbb, hcc⟩, hag, _⟩ := aQ.at (aQ.same (E := cO) cB hn2 hX) (by decide) hx
   have w1 : IntKind.i64.wrap ((i : Int) + 1) = ((i + 1 : Nat) : Int) := by rw [wrap_i64 (by omega) (by omega)]; omega
   refine aE (bE (aE (aR ?_)))
   simp only [↓aJ,aH,rE,↓reduceIte, rA, p47, p49, aL, hia, hag]
   refine dD ?_
   intro X1 x1 m1 d1
   refine eH (b := X.nx) (by simp only [↓aJ,aH,rE,↓reduceIte, rA]) (by simp only [↓aJ,aH,rE,↓reduceIte, rA]; exact bK _) d1 rfl rfl ?_
   intro X2 x2 m2 d2
   simp only [↓aJ,aH,rE,↓reduceIte, rA]
   have hX2 : Same X X2 := x2.same x1 (Nat.le_refl _)
   have hS2X := hX.trans hX2
   have hWX := hW2.same hS2X
   have hla := (ha.same hX2).len
   have hsa := bS.self ha
   have hsi := aQ.self hi
   refine aE (bP (Q := fun o A' Y => o = .normal ∧ A'.inr = false ∧ Same X2 Y ∧ aC 0 A'.F = .ptr wb 0 ∧ aC 3 A'.F = .sl S.nx 0 g.infos.length g.infos.length false ∧ aC 47 A'.F = nv ∧ aC 48 A'.F = .int .i64 ((g.nodes.length : Nat) : Int) ∧ aC 49 A'.F = .int .i64 (i : Int) ∧ aC 73 A'.F = .bool (decide (mis g x))) (mO ?_) ?_)
   ·by_cases hk2 : x.kind = 2
    ·obtain ⟨i0, i1⟩ := hok x hxm hk2
     obtain ⟨n, hn'⟩ : ∃ n : Nat, x.info = (n : Int) := ⟨x.info.toNat, by omega⟩
     have hni : n < g.infos.length := by omega
     obtain ⟨y, hy⟩ : ∃ y, g.infos[n]? = some y := ⟨_, List.getElem?_eq_getElem hni⟩
     obtain ⟨e', b', q', hia', hb', he', rfl, hag', _⟩ := aQ.at (aQ.same (E := dB) cU hi2 hS2X) (by decide) hy
     have hya : infoAt g x.info = y := by unfold infoAt; rw [hn', List.getD_eq_getElem?_getD, show ((n : Int)).toNat = n from rfl, hy]; rfl
     have hmis : decide (mis g x) = decide (¬ (y.player = x.player ∧ y.actions = ((x.next.length : Nat) : Int))) := by
      rw [Bool.eq_iff_iff, decide_eq_true_iff, decide_eq_true_iff]
      unfold mis
      rw [hya]
      exact ⟨fun h => h.2, fun h => ⟨hk2, h⟩⟩
     rw [hmis]
     rw [hn'] at d2
     have hs2 : cN (.agg [.int .i64 y.player, .int .i64 y.actions]) (.agg [.int .i64 y.player, .int .i64 y.actions]) = true := aHJ (eU ..) (eU ..)
     simp only [↓aJ,aH,rE,↓reduceIte, rA, p0, p3, p47, p48, p49, aS, bF, aT, aB, aN, aA, fG d2, eQ d2, fO d2, fI d2, fO hWX.1, aL, hia', hag', hla, hsa, hsi, hs2, Int.ofNat_eq_natCast, lO, aLt, cV, aIt, decide_eq_true hk2]
     exact Same.nx _ _
    ·rw [decide_eq_false (show ¬ mis g x from fun h => hk2 h.1)]
     simp only [↓aJ,aH,rE,↓reduceIte, rA, p0, p3, p47, p48, p49, aB, aN, aA, fG d2, decide_eq_false hk2]
     exact Same.nx _ _
   clear p0 p3 p47 p48 p49
   rintro o ⟨F, inr⟩ Y ⟨rfl, q0, hY, p0, p3, p47, p48, p49, pb⟩
   simp only at q0 p0 p3 p47 p48 p49 pb
   subst q0
   have hS2Y := hS2X.trans hY
   try simp only [↓aJ,aH,rE,↓reduceIte, rA]
   by_cases hmx : mis g x
   ·refine bB (by simp only [↓aJ,aH,rE,↓reduceIte, rA, pb, decide_eq_true hmx]) ?_
    refine cI ?_
    simp only [↓aJ,aH,rE,↓reduceIte, rA]
    refine aY ?_
    simp only [↓aJ,aH,rE,↓reduceIte, rA]
    exact .inr ⟨hS2Y, x, hxm, hmx⟩
   ·refine aX (by simp only [↓aJ,aH,rE,↓reduceIte, rA, pb, decide_eq_false hmx]) (aO ?_)
    try simp only [↓aJ,aH,rE,↓reduceIte, rA]
    refine aR ?_
    simp only [↓aJ,aH,rE,↓reduceIte, rA, p49, w1]
    refine ⟨k - 1, by omega, rfl, hS2Y, i + 1, by omega, fun y hy => ?_, by simp only [↓aJ,aH,rE,↓reduceIte, rA, p0], by simp only [↓aJ,aH,rE,↓reduceIte, rA, p3], by simp only [↓aJ,aH,rE,↓reduceIte, rA, p47], by simp only [↓aJ,aH,rE,↓reduceIte, rA, p48], by simp only [↓aJ,aH,rE,↓reduceIte, rA]⟩
    rw [List.take_add_one, hx] at hy
    rcases List.mem_append.1 hy with h | h
    ·exact hm y h
    ·simp at h; rw [h]; exact hmx
  ·refine aE (aX (by simp only [↓aJ,aH,rE,↓reduceIte, rA, decide_eq_false (show ¬ (i : Int) < ((g.nodes.length : Nat) : Int) by omega)]) (cL ?_))
   simp only [↓aJ,aH,rE,↓reduceIte, rA]
   have hk0 : k = 0 := by omega
   subst hk0
   exact .inl ⟨rfl, hX, i, hik, hm, by simp only [↓aJ,aH,rE,↓reduceIte, rA, p0], by simp only [↓aJ,aH,rE,↓reduceIte, rA, p3], by simp only [↓aJ,aH,rE,↓reduceIte, rA, p47], by simp only [↓aJ,aH,rE,↓reduceIte, rA, p48], by simp only [↓aJ,aH,rE,↓reduceIte, rA, p49]⟩
 clear p0 p3 p4
 rintro o ⟨F, inr⟩ X (⟨rfl, q0, hX, i, hik, hm, p0, p3, p47, p48, p49⟩ | ⟨rfl, hX, hmx, p2⟩)
 rotate_left
 ·simp only at p2
  simp only [↓aJ,aH,rE,↓reduceIte, rA, p2]
  unfold aAJ
  rw [if_pos hmx]
  exact ⟨rfl, s2.trans hX⟩
 simp only at q0 p0 p3
 subst q0
 rw [List.take_of_length_le (by omega)] at hm
 unfold aAJ
 rw [if_neg (fun ⟨x, h1, h2⟩ => hm x h1 h2)]
 have sX := s2.trans hX
 have hfX : X.h.get S.nx = some (.cells (bD (jU g)) false 0) := by rw [hX.2 _ hfb2]; exact hfb
 have hrow := aBy (N := g.infos.length) hfX (Nat.lt_of_lt_of_le hfb2 hX.1) hFl
 try simp only [↓aJ,aH,rE,↓reduceIte, rA]
 refine kK ?_
 simp only [↓aJ,aH,rE,↓reduceIte, rA, p3]
 refine bL ?_
 simp only [↓aJ,aH,rE,↓reduceIte, rA]
 refine aW (aBQ H hrow (by omega)) ?_
 rintro _ Y ⟨rfl, hY⟩
 rw [hY]
 try simp only [↓aJ,aH,rE,↓reduceIte, rA]
 by_cases h0 : (0 : Int) ∈ jU g
 ·rw [if_pos h0]
  refine bB (by simp only [↓aJ,aH,rE,↓reduceIte, rA, decide_eq_true h0]) ?_
  refine cI ?_
  simp only [↓aJ,aH,rE,↓reduceIte, rA]
  refine aY ?_
  simp only [↓aJ,aH,rE,↓reduceIte, rA]
  exact sX
 rw [if_neg h0]
 refine aX (by simp only [↓aJ,aH,rE,↓reduceIte, rA, decide_eq_false h0]) (aO ?_)
 try simp only [↓aJ,aH,rE,↓reduceIte, rA]
 refine kK ?_
 simp only [↓aJ,aH,rE,↓reduceIte, rA, p3]
 refine bL ?_
 simp only [↓aJ,aH,rE,↓reduceIte, rA]
 refine aW (aEC H hrow (by omega)) ?_
 rintro _ Y ⟨⟨t, rfl, ht⟩, hY⟩
 simp only [↓aJ,aH,rE,↓reduceIte, rA, gO]
 cases t with
 | false =>
  rw [if_neg (fun h => by have := ht.2 h; cases this)]
  refine bB (by simp only [↓aJ,aH,rE,↓reduceIte, rA]; rfl) ?_
  refine cI ?_
  simp only [↓aJ,aH,rE,↓reduceIte, rA]
  refine aY ?_
  simp only [↓aJ,aH,rE,↓reduceIte, rA]
  exact sX.trans hY
 | true =>
  rw [if_pos (ht.1 rfl)]
  refine aX (by simp only [↓aJ,aH,rE,↓reduceIte, rA]; rfl) (aO ?_)
  try simp only [↓aJ,aH,rE,↓reduceIte, rA]
  refine cI ?_
  simp only [↓aJ,aH,rE,↓reduceIte, rA]
  refine aY ?_
  simp only [↓aJ,aH,rE,↓reduceIte, rA]
  exact sX.trans hY
end Go.Ev.Gl
namespace Go.Ev.Gl
variable {fns : T cA}
def qY (g : bG) : Prop := g.players < 1 ∨ (4 : Int) < g.players ∨ ((g.nodes.length : Nat) : Int) < 1 ∨ (2000 : Int) < ((g.nodes.length : Nat) : Int) ∨ (200 : Int) < ((g.infos.length : Nat) : Int)
instance badGDec (g : bG) : Decidable (qY g) := by unfold qY; exact inferInstance
def mH (ps : Int) (ni : Nat) : List cM → Int
 | [] => 0
 | x :: l => if iA ps ni x ≠ 0 then iA ps ni x else mH ps ni l
def iC (g : bG) : Option (List cK) := eR g.nodes.length (dP g) (g.nodes.length + 1) 0 (-1) 0
noncomputable def dF (g : bG) : Int :=
 if qY g then 2 else if mH g.players g.infos.length g.nodes ≠ 0 then mH g.players g.infos.length g.nodes else
 match iC g with
 | none => 9
 | some T => if T.length ≠ g.nodes.length then 9 else if 40 < aAR 0 T then 5 else aAJ g
theorem jO {ps : Int} {ni : Nat} : ∀ {l : List cM}, mH ps ni l = 0 → ∀ x ∈ l, iA ps ni x = 0
 | [], _, x, hx => by cases hx
 | y :: l, h, x, hx => by
  simp only [mH] at h
  split at h
  ·rename_i hne; exact absurd h hne
  ·rename_i he
   rcases List.mem_cons.1 hx with rfl | hx
   ·exact Decidable.not_not.1 he
   ·exact jO h x hx
theorem aC3 {ps : Int} {ni : Nat} {x : cM} (h : iA ps ni x = 0) : x.next.length ≤ 1000 := by
 unfold iA at h
 split at h
 ·split at h
  ·cases h
  ·rename_i hb
   unfold qG at hb
   omega
 ·split at h
  ·split at h
   ·cases h
   ·rename_i hb
    unfold uW at hb
    omega
  ·split at h
   ·split at h
    ·cases h
    ·rename_i hb
     unfold rJ at hb
     omega
   ·cases h
theorem aDh {ps : Int} {ni : Nat} {x : cM} (h : iA ps ni x = 0) (h2 : x.kind = 2) : 0 ≤ x.info ∧ x.info < ni := by
 unfold iA at h
 rw [if_neg (by omega), if_pos h2] at h
 split at h
 ·cases h
 ·split at h
  ·cases h
  ·omega
theorem stc {S : St} {b p : Nat} {w : AV} {cs : List AV} {o : Bool} {sz : Nat} (h : S.h.get b = some (.cells cs o sz)) (hp : p < cs.length) : oH (.ptr b p) 1 [w] S = some (.undef, ⟨S.h.set b (some (.cells (cs.set p w) o sz)), S.nx⟩) := by
 have hput : put cs p [w] = some (cs.set p w) := by
  rw [put_eq, if_pos (by simp; omega)]
  congr 1
  rw [List.set_eq_take_append_cons_drop, if_pos hp]
  simp
 simp only [oH, oZ, h, aF, yY, hput]
 rfl
theorem xX {W : Nat → Prop} {h0 h' : T AB} {base m i : Nat} {l : List AO} {F : Fr} {S : St} {ps ps' : List gI} {last : Option Nat} {Q : Fr → St → List gI → Prop} {x v : cH} {b p sz : Nat} {w : AV} {cs : List AV} {o : Bool} (hfl : cE m ps S.h = (ps', h')) (h : kI last m = true) (hx : x.val F = .ptr b p) (hv : (v.val F).cells = some [w]) (hb : h'.get b = some (.cells cs o sz)) (hp : p < cs.length) (hW : W b)
  (hr : fH fns W h0 base l (i + 1) F ⟨h'.set b (some (.cells (cs.set p w) o sz)), S.nx⟩ ps' (some i) Q) : fH fns W h0 base (⟨none, .x (.st 1 x v), none, m⟩ :: l) i F S ps last Q := by
 refine uF (S1 := ⟨h'.set b (some (.cells (cs.set p w) o sz)), S.nx⟩) h ?_ ?_ ?_
 ·rw [hfl, hv, aF, hx]; exact stc (S := ⟨h', S.nx⟩) hb hp
 ·rw [hfl]
  refine ⟨Nat.le_refl _, fun c hc hw => ?_⟩
  simp only
  rw [T.get_set, if_neg (show ¬ c = b from fun e => hw (by rw [e]; exact hW))]
 ·rw [hfl]; exact hr
end Go.Ev.Gl
namespace Go.Ev.Gl
variable {fns : T cA}
theorem aBY {h : T AB} {b : Nat} {x0 x1 x2 : AV} {o : Bool} {s : Nat} (hb : h.get b = some (.cells [x0, x1, x2] o s)) : fK (.ptr b (0 + 0)) false 1 h = some x0 := ldc hb rfl
theorem lI {h : T AB} {b : Nat} {x0 x1 x2 : AV} {o : Bool} {s : Nat} (hb : h.get b = some (.cells [x0, x1, x2] o s)) : fK (.ptr b (0 + 1)) false 1 h = some x1 := ldc hb rfl
theorem uX {h : T AB} {b : Nat} {x0 x1 x2 : AV} {o : Bool} {s : Nat} (hb : h.get b = some (.cells [x0, x1, x2] o s)) : fK (.ptr b (0 + 2)) false 1 h = some x2 := ldc hb rfl
theorem iY {h : T AB} {b : Nat} {x0 x1 x2 : AV} {o : Bool} {s : Nat} (hb : h.get b = some (.cells [x0, x1, x2] o s)) : fK (.ptr b 0) true 3 h = some (.agg [x0, x1, x2]) := qJ hb rfl
theorem vU {m j id : Nat} {bl : AB} {ps : List gI} {h : T AB} (ht : Nat.testBit m j = false) : cE m (⟨j, id, bl⟩ :: ps) h = (⟨j, id, bl⟩ :: (cE m ps h).1, (cE m ps h).2) := by
 conv => lhs; unfold cE
 rw [show Nat.testBit m (gI.mk j id bl).i = false from ht, aM]
theorem kN {m j id : Nat} {bl : AB} {ps : List gI} {h : T AB} (ht : Nat.testBit m j = true) : cE m (⟨j, id, bl⟩ :: ps) h = cE m ps (h.set id (some bl)) := by
 conv => lhs; unfold cE
 rw [show Nat.testBit m (gI.mk j id bl).i = true from ht, aG]
theorem qO {W : Nat → Prop} {h0 : T AB} {base i : Nat} {l : List AO} {F : Fr} {S : St} {ps : List gI} {last : Option Nat} {Q : Fr → St → List gI → Prop} {d : Option Nat} {t s bytes n : Nat} {z : List AV} {lo co : cH} (hl : eF (lo.val F) = some n) (hc : eF (co.val F) = some n) (h1 : n ≤ room) (h2 : bytes * n ≤ room)
  (hr : fH fns W h0 base l (i + 1) (cG d F (.sl (base + i) 0 n n false)) S (⟨i, base + i, .cells (repeatL z n) false 0⟩ :: ps) last Q) : aFm fns W h0 base (sN (.mkSlice t s bytes z lo co) F (base + i)) d l i F S ps last Q := by
 rw [tA hl hc h1 h2, nM]
 exact hr
theorem gL.full {sel : cK → Int} {P P' : List Int} {T : List cK} (h : gL sel P P' T 0) (hl : T.length = P.length) : P' = T.map sel := by
 refine List.ext_getElem (by rw [List.length_map, h.1, hl]) fun j j1 j2 => ?_
 have h1 := h.2 j
 rw [List.length_map] at j2
 unfold tG at h1
 rw [if_pos (Nat.zero_le _), Nat.sub_zero, List.getElem?_eq_getElem j2, List.getD_eq_getElem?_getD, List.getElem?_eq_getElem j1] at h1
 rw [List.getElem_map]
 exact h1
theorem aGf {g : bG} {T : List cK} (h : iC g = some T) : ∃ e L, T = (-1, 0, e) :: L := by
 unfold iC at h
 simp only [eR] at h
 split at h
 ·obtain ⟨L, _, rfl⟩ := Option.map_eq_some_iff.1 h
  exact ⟨_, _, rfl⟩
 ·cases h
theorem aII (m : Int) (L : List cK) : aFW m (L.map (·.2.1)) = aAR m L := by
 unfold aFW aAR
 rw [List.foldl_map]
theorem aKc {P : T AB → Prop} {h : T AB} {w b1 b2 b3 : Nat} {c1 c2 c3 z : Option AB} (n1 : w ≠ b1) (n2 : w ≠ b2) (n3 : w ≠ b3) (n4 : b1 ≠ b2) (n5 : b1 ≠ b3) (n6 : b2 ≠ b3)
  (H : ∀ h' : T AB, h'.get w = c3 → h'.get b1 = z → h'.get b2 = z → h'.get b3 = z → (∀ c, c ≠ w → c ≠ b1 → c ≠ b2 → c ≠ b3 → h'.get c = h.get c) → P h') : P ((((((h.set b1 z).set w c1).set b2 z).set w c2).set b3 z).set w c3) := by
 refine H _ ?_ ?_ ?_ ?_ fun c h1 h2 h3 h4 => ?_
 ·rw [T.get_set, if_pos rfl]
 ·rw [T.get_set, if_neg (Ne.symm n1), T.get_set, if_neg n5, T.get_set, if_neg (Ne.symm n1), T.get_set, if_neg n4, T.get_set, if_neg (Ne.symm n1), T.get_set, if_pos rfl]
 ·rw [T.get_set, if_neg (Ne.symm n2), T.get_set, if_neg n6, T.get_set, if_neg (Ne.symm n2), T.get_set, if_pos rfl]
 ·rw [T.get_set, if_neg (Ne.symm n3), T.get_set, if_pos rfl]
 ·rw [T.get_set, if_neg h1, T.get_set, if_neg h4, T.get_set, if_neg h1, T.get_set, if_neg h3, T.get_set, if_neg h1, T.get_set, if_neg h2]
def aMZ (S2 : St) (gb wb : Nat) (nv : AV) (g : bG) (k : Nat) (A : bT) (X : St) : Prop := A.inr = false ∧ Same S2 X ∧ ∃ i, i + k = g.nodes.length ∧ mH g.players g.infos.length g.nodes = mH g.players g.infos.length (g.nodes.drop i) ∧ aC 1 A.F = .ptr gb 0 ∧ aC 4 A.F = .ptr wb 0 ∧ aC 40 A.F = nv ∧ aC 41 A.F = .int .i64 ((g.nodes.length : Nat) : Int) ∧ aC 42 A.F = .int .i64 (i : Int)
def aLz (S S' : St) (p nv iv : AV) (g : bG) : Prop := ∃ (wb pb db lb : Nat) (T : List cK), p = .ptr wb 0 ∧ S.nx ≤ wb ∧ iC g = some T ∧ T.length = g.nodes.length ∧ WK S' wb pb db lb g.nodes.length g.players nv iv (T.map (·.1)) (T.map (·.2.1)) (T.map (·.2.2))
set_option maxHeartbeats 4000000 in
theorem aEO {S : St} {nv iv : AV} {g : bG} (H : Has fns) (hn : aQ 6 cO S nv g.nodes) (hi : aQ 2 dB S iv g.infos) (hln : g.nodes.length ≤ 100000) :
  iQ fns (.fn 131 [] []) [.agg [.int .i64 g.players, nv, iv]] S fun r S' => Same S S' ∧ ∃ p, r = .tup [p, .int .i64 (dF g)] ∧ (dF g = 0 → aLz S S' p nv iv g) := by
 refine cW H.f131 (by simp) ?_
 simp only [↓sU,sD,rE,↓reduceIte,rA]
 refine cI ?_
 refine eY (by simp only [↓sU,sD,rE,↓reduceIte,rA]; exact bK _) ?_
 intro S1 s1 n1 c1
 simp only [↓sU,sD,rE,↓reduceIte,rA]
 have hnl := hn.len
 have hil := hi.len
 refine aE (aE (bP (Q := fun o A' X => o = .normal ∧ A'.inr = false ∧ X = S1 ∧ aC 1 A'.F = .ptr S.nx 0 ∧ aC 35 A'.F = .bool (decide (qY g))) (aR ?_) ?_))
 ·by_cases h1 : g.players < 1
  ·rw [decide_eq_true (show qY g from .inl h1)]
   simp only [↓sU,sD,rE,↓reduceIte,rA, aB, aA, aBY c1, lI c1, uX c1, hnl, hil, decide_eq_true h1]
  by_cases h2 : (4 : Int) < g.players
  ·rw [decide_eq_true (show qY g from .inr (.inl h2))]
   simp only [↓sU,sD,rE,↓reduceIte,rA, aB, aA, aBY c1, lI c1, uX c1, hnl, hil, decide_eq_false h1, decide_eq_true h2]
  by_cases h3 : ((g.nodes.length : Nat) : Int) < 1
  ·rw [decide_eq_true (show qY g from .inr (.inr (.inl h3)))]
   simp only [↓sU,sD,rE,↓reduceIte,rA, aB, aA, aBY c1, lI c1, uX c1, hnl, hil, decide_eq_false h1, decide_eq_false h2, decide_eq_true h3]
  by_cases h4 : (2000 : Int) < ((g.nodes.length : Nat) : Int)
  ·rw [decide_eq_true (show qY g from .inr (.inr (.inr (.inl h4))))]
   simp only [↓sU,sD,rE,↓reduceIte,rA, aB, aA, aBY c1, lI c1, uX c1, hnl, hil, decide_eq_false h1, decide_eq_false h2, decide_eq_false h3, decide_eq_true h4]
  by_cases h5 : (200 : Int) < ((g.infos.length : Nat) : Int)
  ·rw [decide_eq_true (show qY g from .inr (.inr (.inr (.inr h5))))]
   simp only [↓sU,sD,rE,↓reduceIte,rA, aB, aA, aBY c1, lI c1, uX c1, hnl, hil, decide_eq_false h1, decide_eq_false h2, decide_eq_false h3, decide_eq_false h4, decide_eq_true h5]
  ·rw [decide_eq_false (show ¬ qY g by unfold qY; omega)]
   simp only [↓sU,sD,rE,↓reduceIte,rA, aB, aA, aBY c1, lI c1, uX c1, hnl, hil, decide_eq_false h1, decide_eq_false h2, decide_eq_false h3, decide_eq_false h4, decide_eq_false h5]
 rintro o ⟨F, inr⟩ X ⟨rfl, q0, hX, p1, pb⟩
 simp only at q0 p1 pb
 subst q0
 rw [hX]
 clear hX
 try simp only [↓sU,sD,rE,↓reduceIte,rA]
 by_cases bad : qY g
 ·have hE : dF g = 2 := by unfold dF; rw [if_pos bad]
  rw [hE]
  refine bB (by simp only [↓sU,sD,rE,↓reduceIte,rA, pb, decide_eq_true bad]) ?_
  refine cI ?_
  simp only [↓sU,sD,rE,↓reduceIte,rA]
  refine aY ?_
  simp only [↓sU,sD,rE,↓reduceIte,rA]
  exact ⟨s1, _, rfl, fun h => by cases h⟩
 refine aX (by simp only [↓sU,sD,rE,↓reduceIte,rA, pb, decide_eq_false bad]) (aO ?_)
 try simp only [↓sU,sD,rE,↓reduceIte,rA]
 have hps : 1 ≤ g.players ∧ g.players ≤ 4 := by unfold qY at bad; omega
 have hN : g.nodes.length ≤ 2000 := by unfold qY at bad; omega
 have hN0 : 0 < g.nodes.length := by unfold qY at bad; omega
 have hI : g.infos.length ≤ 200 := by unfold qY at bad; omega
 have hbd : ∀ (F : Fr) (h : T AB), aC 36 F = .agg [.int .i64 g.players, nv, iv] → gP (.build [.int .i64 0, .nilsl, .nilsl, .nilsl, .nilsl, .nilsl] [(0, 3, .t 36)]) F h = some (.agg [.int .i64 g.players, nv, iv, .nilsl, .nilsl, .nilsl]) := fun F h he => by
  show (aU (dY _ (dO F [(0, 3, .t 36)])) fun cs => some (AV.agg cs)) = _
  simp only [dO, show (cH.t 36).val F = .agg [.int .i64 g.players, nv, iv] from he]
  rfl
 refine cI ?_
 simp only [↓aJ,aH,rE,↓reduceIte, rA, p1, iY c1, hbd]
 refine eY (by simp only [↓aJ,aH,rE,↓reduceIte]; exact bK _) ?_
 intro S2 s2 n2 c2
 simp only [↓sU,sD,rE,↓reduceIte,rA]
 have sS2 : Same S S2 := s1.trans s2
 have hW : qF S2 S1.nx g.players nv iv .nilsl .nilsl .nilsl := ⟨c2, by omega⟩
 have hn2 := aQ.same (E := cO) cB hn sS2
 have gl2 : S.nx < S2.nx := by omega
 have c1' : S2.h.get S.nx = some (.cells [.int .i64 g.players, nv, iv] false 0) := by rw [s2.2 _ (by omega)]; exact c1
 refine aE (bP (Q := fun o A' X => (o = .normal ∧ aMZ S2 S.nx S1.nx nv g 0 A' X) ∨ (o = .ret ∧ Same S2 X ∧ mH g.players g.infos.length g.nodes ≠ 0 ∧ aC 2 A'.F = .nilp ∧ aC 3 A'.F = .int .i64 (mH g.players g.infos.length g.nodes))) (aE (aR ?_)) ?_)
 ·simp only [↓sU,sD,rE,↓reduceIte,rA, p1, aB, aA, lI c1', hnl]
  refine bE (cS (aMZ S2 S.nx S1.nx nv g) ?_ g.nodes.length _ _ ⟨rfl, Same.refl _, 0, by omega, by rw [List.drop_zero], by simp only [↓sU,sD,rE,↓reduceIte,rA, p1], by simp only [↓sU,sD,rE,↓reduceIte,rA], by simp only [↓sU,sD,rE,↓reduceIte,rA], by simp only [↓sU,sD,rE,↓reduceIte,rA], by simp only [↓sU,sD,rE,↓reduceIte,rA]⟩)
  clear p1 pb
  rintro k ⟨F, inr⟩ X ⟨q0, hX, i, hik, hE, p1, p4, p40, p41, p42⟩
  simp only at q0 p1 p4 p40 p41 p42
  subst q0
  refine cI ?_
  simp only [↓sU,sD,rE,↓reduceIte,rA, p41, p42]
  by_cases hlt : i < g.nodes.length
  ·refine aE (bB (by simp only [↓sU,sD,rE,↓reduceIte,rA, decide_eq_true (show (i : Int) < ((g.nodes.length : Nat) : Int) by omega)]) (aO ?_))
   simp only [↓sU,sD,rE,↓reduceIte,rA]
   obtain ⟨x, hx⟩ : ∃ x, g.nodes[i]? = some x := ⟨_, List.getElem?_eq_getElem hlt⟩
   obtain ⟨e, b, q, hia, hb, he, hNE, hag, _⟩ := aQ.at (aQ.same (E := cO) cB hn2 hX) (by decide) hx
   have hdrop : g.nodes.drop i = x :: g.nodes.drop (i + 1) := by
    rw [List.drop_eq_getElem_cons hlt]
    congr 1
    rw [List.getElem?_eq_getElem hlt] at hx
    exact Option.some.inj hx
   have w1 : IntKind.i64.wrap ((i : Int) + 1) = ((i + 1 : Nat) : Int) := by rw [wrap_i64 (by omega) (by omega)]; omega
   refine aE (bE (aE (aR ?_)))
   simp only [↓aJ,aH,rE,↓reduceIte, rA, p40, p42, aL, hia, hag]
   refine dD ?_
   intro X1 x1 m1 d1
   refine eH (b := X.nx) (by simp only [↓aJ,aH,rE,↓reduceIte, rA]) (by simp only [↓aJ,aH,rE,↓reduceIte, rA]; exact bK _) d1 rfl he ?_
   intro X2 x2 m2 d2
   simp only [↓aJ,aH,rE,↓reduceIte, rA]
   have hX2 : Same X X2 := x2.same x1 (Nat.le_refl _)
   refine cI ?_
   simp only [↓sU,sD,rE,↓reduceIte,rA, p4, qJ d2 he]
   refine bL ?_
   simp only [↓sU,sD,rE,↓reduceIte,rA]
   refine aW (aHj H (cB hNE hX2) (hW.same (hX.trans hX2)) hps hil (by omega) (aQ.self hi)) ?_
   rintro _ Y ⟨rfl, hY⟩
   have hSY := (hX.trans hX2).trans hY
   rw [hdrop] at hE
   simp only [mH] at hE
   try simp only [↓sU,sD,rE,↓reduceIte,rA]
   refine cI ?_
   simp only [↓sU,sD,rE,↓reduceIte,rA]
   by_cases he0 : iA g.players g.infos.length x = 0
   ·rw [if_neg (fun h => h he0)] at hE
    refine aX (by simp only [↓sU,sD,rE,↓reduceIte,rA, decide_eq_false (show ¬ iA g.players g.infos.length x ≠ 0 from fun h => h he0)]) (aO ?_)
    try simp only [↓sU,sD,rE,↓reduceIte,rA]
    refine aR ?_
    simp only [↓sU,sD,rE,↓reduceIte,rA, p42, w1]
    exact ⟨k - 1, by omega, rfl, hSY, i + 1, by omega, hE, by simp only [↓sU,sD,rE,↓reduceIte,rA, p1], by simp only [↓sU,sD,rE,↓reduceIte,rA, p4], by simp only [↓sU,sD,rE,↓reduceIte,rA, p40], by simp only [↓sU,sD,rE,↓reduceIte,rA, p41], by simp only [↓sU,sD,rE,↓reduceIte,rA]⟩
   ·rw [if_pos he0] at hE
    refine bB (by simp only [↓sU,sD,rE,↓reduceIte,rA, decide_eq_true (show iA g.players g.infos.length x ≠ 0 from he0)]) ?_
    refine cI ?_
    simp only [↓sU,sD,rE,↓reduceIte,rA]
    refine aY ?_
    simp only [↓sU,sD,rE,↓reduceIte,rA]
    exact .inr ⟨hSY, by rw [hE]; exact he0, by rw [hE]⟩
  ·refine aE (aX (by simp only [↓sU,sD,rE,↓reduceIte,rA, decide_eq_false (show ¬ (i : Int) < ((g.nodes.length : Nat) : Int) by omega)]) (cL ?_))
   simp only [↓sU,sD,rE,↓reduceIte,rA]
   have hk0 : k = 0 := by omega
   subst hk0
   exact .inl ⟨rfl, hX, i, hik, hE, by simp only [↓sU,sD,rE,↓reduceIte,rA, p1], by simp only [↓sU,sD,rE,↓reduceIte,rA, p4], by simp only [↓sU,sD,rE,↓reduceIte,rA, p40], by simp only [↓sU,sD,rE,↓reduceIte,rA, p41], by simp only [↓sU,sD,rE,↓reduceIte,rA, p42]⟩
 clear p1 pb
 rintro o ⟨F, inr⟩ X (⟨rfl, q0, hX, i, hik, hE, p1, p4, p40, p41, p42⟩ | ⟨rfl, hX, hne, p2, p3⟩)
 rotate_left
 ·simp only at p2 p3
  simp only [↓sU,sD,rE,↓reduceIte,rA, p2, p3]
  have hE : dF g = mH g.players g.infos.length g.nodes := by unfold dF; rw [if_neg bad, if_pos hne]
  rw [hE]
  exact ⟨sS2.trans hX, _, rfl, fun h => absurd h hne⟩
 simp only at q0 p1 p4
 subst q0
 rw [List.drop_of_length_le (by omega)] at hE
 have hform : dF g = match iC g with | none => 9 | some T => if T.length ≠ g.nodes.length then 9 else if 40 < aAR 0 T then 5 else aAJ g := by
  conv => lhs; unfold dF
  rw [if_neg bad, if_neg (fun h => h hE)]
  first | done | (cases iC g <;> rfl)
 have sX := sS2.trans hX
 have cX : X.h.get S.nx = some (.cells [.int .i64 g.players, nv, iv] false 0) := by rw [hX.2 _ gl2]; exact c1'
 have wX := (hW.same hX).1
 have ltw := (hW.same hX).2
 have ltg : S.nx < X.nx := Nat.lt_of_lt_of_le gl2 hX.1
 have nwg : ¬ S.nx = S1.nx := by omega
 try simp only [↓sU,sD,rE,↓reduceIte,rA]
 refine aE (oC (fun b => b = S1.nx) ?_)
 intro X1 x1 hx1 hm1
 simp only [↓sU,sD,rE,↓reduceIte,rA, p1, p4, aB, aN, aA, lI cX, ltg, nwg, not_false_eq_true, hnl, aQ.self hn]
 refine qO (n := g.nodes.length) (by simp only [↓sU,sD,rE,↓reduceIte,rA, aL]) (by simp only [↓sU,sD,rE,↓reduceIte,rA, aL]) (by unfold room; omega) (by unfold room; omega) ?_
 simp only [↓sU,sD,rE,↓reduceIte,rA, p1, p4, aB, aN, aA, lI cX, ltg, nwg, not_false_eq_true, hnl, aQ.self hn]
 refine qO (n := g.nodes.length) (by simp only [↓sU,sD,rE,↓reduceIte,rA, aL]) (by simp only [↓sU,sD,rE,↓reduceIte,rA, aL]) (by unfold room; omega) (by unfold room; omega) ?_
 simp only [↓sU,sD,rE,↓reduceIte,rA, p1, p4, aB, aN, aA, lI cX, ltg, nwg, not_false_eq_true, hnl, aQ.self hn]
 refine qO (n := g.nodes.length) (by simp only [↓sU,sD,rE,↓reduceIte,rA, aL]) (by simp only [↓sU,sD,rE,↓reduceIte,rA, aL]) (by unfold room; omega) (by unfold room; omega) ?_
 simp only [↓sU,sD,rE,↓reduceIte,rA, p1, p4, aS, bF, aT, aB, aN, aA]
 have hz : repeatL [AV.int .i64 0] g.nodes.length = bD (List.replicate g.nodes.length 0) := by rw [repeatL_one]; simp [bD]
 rw [hz]
 have n6 : ¬ S1.nx = X.nx + 6 := by omega
 have n10 : ¬ S1.nx = X.nx + 10 := by omega
 have n14 : ¬ S1.nx = X.nx + 14 := by omega
 refine xX (b := S1.nx) (p := 3) (w := .sl (X.nx + 6) 0 g.nodes.length g.nodes.length false) (cs := [.int .i64 g.players, nv, iv, .nilsl, .nilsl, .nilsl]) (o := false) (sz := 0) ((vU (show Nat.testBit 98425 14 = false by decide)).trans (by rw [vU (show Nat.testBit 98425 10 = false by decide), kN (show Nat.testBit 98425 6 = true by decide), bX])) rfl (by simp only [↓sU,sD,rE,↓reduceIte,rA]) (by simp only [↓sU,sD,rE,↓reduceIte,rA]; rfl) (by rw [T.get_set, if_neg n6, hx1]; exact wX) (by simp) rfl ?_
 simp only [↓sU,sD,rE,↓reduceIte,rA, p1, p4, aS, bF, aT, aB, aN, aA]
 refine xX (b := S1.nx) (p := 4) (w := .sl (X.nx + 10) 0 g.nodes.length g.nodes.length false) (cs := [.int .i64 g.players, nv, iv, .sl (X.nx + 6) 0 g.nodes.length g.nodes.length false, .nilsl, .nilsl]) (o := false) (sz := 0) ((vU (show Nat.testBit 1017851 14 = false by decide)).trans (by rw [kN (show Nat.testBit 1017851 10 = true by decide), bX])) rfl (by simp only [↓sU,sD,rE,↓reduceIte,rA]) (by simp only [↓sU,sD,rE,↓reduceIte,rA]; rfl) (by rw [T.get_set, if_neg n10, T.get_set, if_pos rfl]; rfl) (by simp) rfl ?_
 simp only [↓sU,sD,rE,↓reduceIte,rA, p1, p4, aS, bF, aT, aB, aN, aA]
 refine xX (b := S1.nx) (p := 5) (w := .sl (X.nx + 14) 0 g.nodes.length g.nodes.length false) (cs := [.int .i64 g.players, nv, iv, .sl (X.nx + 6) 0 g.nodes.length g.nodes.length false, .sl (X.nx + 10) 0 g.nodes.length g.nodes.length false, .nilsl]) (o := false) (sz := 0) ((kN (show Nat.testBit 8388607 14 = true by decide)).trans (bX _ _)) rfl (by simp only [↓sU,sD,rE,↓reduceIte,rA]) (by simp only [↓sU,sD,rE,↓reduceIte,rA]; rfl) (by rw [T.get_set, if_neg n14, T.get_set, if_pos rfl]; rfl) (by simp) rfl ?_
 simp only [↓sU,sD,rE,↓reduceIte,rA]
 refine aKc (P := fun h' => lZ fns _ _ ⟨h', X1.nx⟩ _) n6 n10 n14 (by omega) (by omega) (by omega) ?_
 intro Zh gw g1 g2 g3 gr
 have hm1 : X1.nx = X.nx + 24 := hm1
 have sZ : Same S ⟨Zh, X1.nx⟩ := ⟨by show S.nx ≤ X1.nx; have := sX.1; omega, fun c hc => by
  have := sX.1
  show Zh.get c = S.h.get c
  rw [gr c (by omega) (by omega) (by omega) (by omega), hx1]
  exact sX.2 c hc⟩
 have cZ : Zh.get S.nx = some (.cells [.int .i64 g.players, nv, iv] false 0) := by
  rw [gr _ (by omega) (by omega) (by omega) (by omega), hx1]
  exact cX
 have hK : WK ⟨Zh, X1.nx⟩ S1.nx (X.nx + 6) (X.nx + 10) (X.nx + 14) g.nodes.length g.players nv iv (List.replicate g.nodes.length 0) (List.replicate g.nodes.length 0) (List.replicate g.nodes.length 0) := ⟨⟨gw, by show S1.nx < X1.nx; omega⟩, g1, g2, g3, List.length_replicate .., List.length_replicate .., List.length_replicate .., by show _ < X1.nx; omega, by show _ < X1.nx; omega, by show _ < X1.nx; omega⟩
 generalize hZ : (⟨Zh, X1.nx⟩ : St) = Z at *
 have cZ : Z.h.get S.nx = some (.cells [.int .i64 g.players, nv, iv] false 0) := by rw [← hZ]; exact cZ
 have lz : S1.nx < Z.nx := hK.w.2
 have hall := jO hE
 refine kK ?_
 simp only [↓sU,sD,rE,↓reduceIte,rA, p1, p4, aB, aA, lI cZ]
 refine bL ?_
 simp only [↓sU,sD,rE,↓reduceIte,rA]
 rw [show Int.negSucc 0 = (-1 : Int) from rfl]
 refine aW (aHv (rv := nv) H hn (by omega) (by have := sX.1; omega) (by have := sX.1; omega) (by have := sX.1; omega) (by omega) (by omega) (by omega) n6 n10 n14 hN (fun x hx => aC3 (hall x hx)) (g.nodes.length + 1) (at_ := 0) (p := -1) (d := 0) (by omega) (by decide) (by decide) (by omega) sZ hK (by rw [List.drop_zero]; exact hn)) ?_
 rintro r Y ⟨hY, P', D', L', hKY, hres⟩
 have sY : Same S Y := hY.same sZ (by have := sX.1; omega) (by have := sX.1; omega) (by have := sX.1; omega)
 have hres' : match iC g with | some T => (∃ v, r = .tup [v, .bool true] ∧ aQ 6 cO S v (g.nodes.drop (0 + T.length))) ∧ gL (·.1) (List.replicate g.nodes.length 0) P' T 0 ∧ gL (·.2.1) (List.replicate g.nodes.length 0) D' T 0 ∧ gL (·.2.2) (List.replicate g.nodes.length 0) L' T 0 | none => r = .tup [.nilsl, .bool false] := hres
 clear hres
 cases hw : iC g with
 | none =>
  rw [hw] at hres' hform
  subst hres'
  simp only at hform
  rw [hform]
  simp only [↓sU,sD,rE,↓reduceIte,rA, ex0, ex1]
  refine cI ?_
  simp only [↓sU,sD,rE,↓reduceIte,rA, gO, Bool.not_false]
  refine bB (by simp only [↓sU,sD,rE,↓reduceIte,rA]) ?_
  refine cI ?_
  simp only [↓sU,sD,rE,↓reduceIte,rA]
  refine aY ?_
  simp only [↓sU,sD,rE,↓reduceIte,rA]
  exact ⟨sY, _, rfl, fun h => by cases h⟩
 | some T =>
  rw [hw] at hres' hform
  obtain ⟨⟨v, rfl, hv⟩, rP, rD, rL⟩ := hres'
  simp only at hform
  have hTl := (zI (show eR g.nodes.length (dP g) (g.nodes.length + 1) 0 (-1) 0 = some T from hw)).1
  have hvl := hv.len
  rw [List.length_drop] at hvl
  simp only [↓sU,sD,rE,↓reduceIte,rA, ex0, ex1]
  refine cI ?_
  simp only [↓sU,sD,rE,↓reduceIte,rA, gO, Bool.not_true, hvl]
  by_cases hT : T.length = g.nodes.length
  rotate_left
  ·rw [hform, if_pos hT]
   refine bB (by simp only [↓sU,sD,rE,↓reduceIte,rA, decide_eq_true (show (0 : Int) < ((g.nodes.length - (0 + T.length) : Nat) : Int) by omega)]) ?_
   refine cI ?_
   simp only [↓sU,sD,rE,↓reduceIte,rA]
   refine aY ?_
   simp only [↓sU,sD,rE,↓reduceIte,rA]
   exact ⟨sY, _, rfl, fun h => by cases h⟩
  rw [if_neg (fun h => h hT)] at hform
  refine aX (by simp only [↓sU,sD,rE,↓reduceIte,rA, decide_eq_false (show ¬ (0 : Int) < ((g.nodes.length - (0 + T.length) : Nat) : Int) by omega)]) (aO ?_)
  try simp only [↓sU,sD,rE,↓reduceIte,rA]
  have eP := rP.full (by rw [List.length_replicate]; exact hT)
  have eD := rD.full (by rw [List.length_replicate]; exact hT)
  have eL := rL.full (by rw [List.length_replicate]; exact hT)
  subst eP eD eL
  have hrow := aBy hKY.gd hKY.bd hKY.ld
  obtain ⟨e, L, hTe⟩ := aGf hw
  have hmax : aFW ((T.map (·.2.1)).getD 0 0) ((T.map (·.2.1)).drop 1) = aAR 0 T := by
   rw [hTe]
   show aFW 0 (L.map (·.2.1)) = aAR 0 ((-1, 0, e) :: L)
   rw [aII, aCS]
   rfl
  refine kK ?_
  simp only [↓sU,sD,rE,↓reduceIte,rA, p1, p4, aS, aT, aB, aA, fM hKY.w.1]
  refine bL ?_
  simp only [↓sU,sD,rE,↓reduceIte,rA]
  refine aW (aJf H hrow (by rw [List.length_map]; omega) (by rw [List.length_map]; omega)) ?_
  rintro _ Y2 ⟨rfl, hY2⟩
  rw [hY2, hmax]
  simp only [↓sU,sD,rE,↓reduceIte,rA]
  by_cases h40 : 40 < aAR 0 T
  ·rw [hform, if_pos h40]
   refine bB (by simp only [↓sU,sD,rE,↓reduceIte,rA, decide_eq_true h40]) ?_
   refine cI ?_
   simp only [↓sU,sD,rE,↓reduceIte,rA]
   refine aY ?_
   simp only [↓sU,sD,rE,↓reduceIte,rA]
   exact ⟨sY, _, rfl, fun h => by cases h⟩
  rw [if_neg h40] at hform
  refine aX (by simp only [↓sU,sD,rE,↓reduceIte,rA, decide_eq_false h40]) (aO ?_)
  try simp only [↓sU,sD,rE,↓reduceIte,rA]
  refine cI ?_
  simp only [↓sU,sD,rE,↓reduceIte,rA, p1, p4]
  refine bL ?_
  simp only [↓sU,sD,rE,↓reduceIte,rA]
  refine aW (aG6 H hKY.w (aQ.same (E := cO) cB hn sY) (aQ.same (E := dB) cU hi sY) hN hI (fun x hx h2 => aDh (hall x hx) h2)) ?_
  rintro _ Y3 ⟨rfl, hY3⟩
  try simp only [↓sU,sD,rE,↓reduceIte,rA, p4]
  refine aY ?_
  simp only [↓sU,sD,rE,↓reduceIte,rA]
  rw [hform]
  refine ⟨sY.trans hY3, _, rfl, fun _ => ⟨S1.nx, _, _, _, T, rfl, by omega, hw, hT, ⟨hKY.w.same hY3, by rw [hY3.2 _ hKY.bp]; exact hKY.gp, by rw [hY3.2 _ hKY.bd]; exact hKY.gd, by rw [hY3.2 _ hKY.bl]; exact hKY.gl, hKY.lp, hKY.ld, hKY.ll, Nat.lt_of_lt_of_le hKY.bp hY3.1, Nat.lt_of_lt_of_le hKY.bd hY3.1, Nat.lt_of_lt_of_le hKY.bl hY3.1⟩⟩⟩
end Go.Ev.Gl
namespace Go.Ev.Gl
variable {fns : T cA}
theorem aCI {S : St} {wb : Nat} {ps : Int} {n i p d l : AV} (H : Has fns) (hW : qF S wb ps n i p d l) : iQ fns (.fn 159 [] []) [.ptr wb 0] S fun r S' => r = p ∧ Same S S' := by
 refine cW H.f159 (by simp) ?_
 simp only [↓sU,sD,rE,↓reduceIte,rA]
 refine cI ?_
 simp only [↓sU,sD,rE,↓reduceIte,rA]
 refine cI ?_
 simp only [↓sU,sD,rE,↓reduceIte,rA, aS, aT, aB, aA, fI hW.1]
 refine aY ?_
 simp only [↓sU,sD,rE,↓reduceIte,rA]
 exact Same.refl _
def aK9 (S S' : St) (v : AV) (g : bG) : Prop := (dF g ≠ 0 → v = .nilsl) ∧ (dF g = 0 → ∃ T, iC g = some T ∧ T.length = g.nodes.length ∧ bS .i64 S' v (T.map (·.1)))
theorem aDJ {S : St} {nv iv : AV} {g : bG} (H : Has fns) (hn : aQ 6 cO S nv g.nodes) (hi : aQ 2 dB S iv g.infos) (hln : g.nodes.length ≤ 100000) :
  iQ fns (.fn 119 [] []) [.agg [.int .i64 g.players, nv, iv]] S fun r S' => ∃ v, r = .tup [v, .int .i64 (dF g)] ∧ Same S S' ∧ aK9 S S' v g := by
 refine cW H.f119 (by simp) ?_
 simp only [↓sU,sD,rE,↓reduceIte,rA]
 refine cI ?_
 refine eY (by simp only [↓sU,sD,rE,↓reduceIte,rA]; exact bK _) ?_
 intro S1 s1 n1 c1
 simp only [↓sU,sD,rE,↓reduceIte,rA]
 refine cI ?_
 simp only [↓sU,sD,rE,↓reduceIte,rA, iY c1]
 refine bL ?_
 simp only [↓sU,sD,rE,↓reduceIte,rA]
 have hn1 := aQ.same (E := cO) cB hn s1
 have hi1 := aQ.same (E := dB) cU hi s1
 refine aW (Q := fun r X => ∃ v, r = .tup [v, .int .i64 (dF g)] ∧ Same S1 X ∧ aK9 S1 X v g) ?_ ?_
 ·refine cW H.f158 (by simp) ?_
  simp only [↓sU,sD,rE,↓reduceIte,rA]
  refine cI ?_
  refine eY (by simp only [↓sU,sD,rE,↓reduceIte,rA]; exact bK _) ?_
  intro S2 s2 n2 c2
  simp only [↓sU,sD,rE,↓reduceIte,rA]
  refine cI ?_
  simp only [↓sU,sD,rE,↓reduceIte,rA, iY c2]
  refine bL ?_
  simp only [↓sU,sD,rE,↓reduceIte,rA]
  refine aW (aEO H (aQ.same (E := cO) cB hn1 s2) (aQ.same (E := dB) cU hi1 s2) hln) ?_
  rintro _ X ⟨hX, p, rfl, hok⟩
  simp only [↓sU,sD,rE,↓reduceIte,rA, ex0, ex1]
  refine kK ?_
  simp only [↓sU,sD,rE,↓reduceIte,rA]
  by_cases h0 : dF g = 0
  ·refine aX (by simp only [↓sU,sD,rE,↓reduceIte,rA, decide_eq_false (show ¬ dF g ≠ 0 from fun h => h h0)]) (aO ?_)
   try simp only [↓sU,sD,rE,↓reduceIte,rA]
   obtain ⟨wb, pb, db, lb, T, rfl, _, hT, hTl, hK⟩ := hok h0
   refine cI ?_
   simp only [↓sU,sD,rE,↓reduceIte,rA]
   refine bL ?_
   simp only [↓sU,sD,rE,↓reduceIte,rA]
   refine aW (aCI H hK.w) ?_
   rintro _ Y ⟨rfl, hY⟩
   try simp only [↓sU,sD,rE,↓reduceIte,rA]
   refine aY ?_
   simp only [↓sU,sD,rE,↓reduceIte,rA]
   rw [h0]
   refine ⟨_, rfl, (s2.trans hX).trans hY, fun h => absurd h0 h, fun _ => ⟨T, hT, hTl, ?_⟩⟩
   exact (aBy hK.gp hK.bp hK.lp).same hY
  ·refine bB (by simp only [↓sU,sD,rE,↓reduceIte,rA, decide_eq_true (show dF g ≠ 0 from h0)]) ?_
   refine cI ?_
   simp only [↓sU,sD,rE,↓reduceIte,rA]
   refine cI ?_
   simp only [↓sU,sD,rE,↓reduceIte,rA]
   refine aY ?_
   simp only [↓sU,sD,rE,↓reduceIte,rA]
   exact ⟨_, rfl, s2.trans hX, fun _ => rfl, fun h => absurd h h0⟩
 rintro _ X ⟨v, rfl, hX, hP⟩
 simp only [↓sU,sD,rE,↓reduceIte,rA, ex0, ex1]
 refine aY ?_
 simp only [↓sU,sD,rE,↓reduceIte,rA]
 exact ⟨_, rfl, s1.trans hX, hP⟩
end Go.Ev.Gl
namespace Go.Ev.Gl
variable {fns : T cA}
theorem aM9 {S : St} {t : Nat} {x : AV} {o : Bool} {sz : Nat} (h : S.h.get t = some (.cells [x] o sz)) : dS (.sl t 0 1 1 false) S.h 1 1 = some [x] := by
 show aU (cP S.h t) (fun cs => cut cs 0 (1 * 1)) = _
 unfold cP
 rw [h]
 rfl
theorem gQ.push {bytes t : Nat} {S0 S : St} {v : AV} {l : List Int} {w : Int} (h : gQ 1 S0 S v l.length (bD l)) (hS : Same S0 S) (ht : S.h.get t = some (.cells [.int .i64 w] false 0)) (h1 : l.length + 1 ≤ room) (h2 : (l.length + 1) * bytes ≤ room) :
  ∃ v' S', fV bytes 1 v (.sl t 0 1 1 false) S = some (v', S') ∧ gQ 1 S0 S' v' (l ++ [w]).length (bD (l ++ [w])) ∧ aP v' = some S.nx ∧ S'.nx = S.nx + 1 ∧ ∀ c, c < S.nx → aP v ≠ some c → S'.h.get c = S.h.get c := by
 have hs := aM9 ht
 have e0 : bD (l ++ [w]) = bD l ++ [.int .i64 w] := by simp [bD]
 have e1 : (l ++ [w]).length = l.length + 1 := by simp
 rw [e0, e1]
 generalize hn : l.length = n at *
 rcases h with ⟨rfl, rfl, h0⟩ | ⟨b, rfl, hb0, hb, hg, hc⟩
 ·refine ⟨.sl S.nx 0 1 1 true, ⟨S.h.set S.nx (some (.cells [.int .i64 w] true 1)), S.nx + 1⟩, ?_, .inr ⟨S.nx, by rw [Nat.zero_add], hS.1, by simp, ?_, ?_⟩, rfl, rfl, fun c hc _ => (Same.alloc S _).2 c hc⟩
  ·show (aU (some 1) fun j => aU (dS (.sl t 0 1 1 false) S.h 1 j) fun new => zM .nilsl bytes 1 j new S) = _
   rw [aF, hs, aF]
   show pE bytes 1 1 [.int .i64 w] S = _
   unfold pE
   rw [show Nat.beq 1 0 = false from rfl, aM, Nat.ble_eq_true_of_le (by omega), aG, Nat.ble_eq_true_of_le (by rw [Nat.zero_add] at h2; exact h2), aG]
   rfl
  ·simp only
   rw [T.get_set, if_pos rfl, h0]
   rfl
  ·rw [h0]; rfl
 ·refine ⟨.sl S.nx 0 (n + 1) (n + 1) true, ⟨(S.h.set b none).set S.nx (some (.cells (bD l ++ [.int .i64 w]) true 1)), S.nx + 1⟩, ?_, .inr ⟨S.nx, rfl, hS.1, by simp, ?_, by rw [List.length_append, hc, List.length_singleton, Nat.add_mul, Nat.one_mul]⟩, rfl, rfl, fun c hc hne => ?_⟩
  ·show (aU (some 1) fun j => aU (dS (.sl t 0 1 1 false) S.h 1 j) fun new => zM (.sl b 0 n n true) bytes 1 j new S) = _
   rw [aF, hs, aF]
   show kD bytes 1 b 0 n n true 1 [.int .i64 w] S = _
   unfold kD
   have e2 : Nat.ble (n + 1) n = false := by rw [Bool.eq_false_iff]; intro h; have := Nat.le_of_ble_eq_true h; omega
   rw [e2, aM, Nat.ble_eq_true_of_le h1, aG, Nat.ble_eq_true_of_le h2, aG, hg, aF]
   have e3 : cut (bD l) 0 (n * 1) = some (bD l) := by
    unfold cut
    rw [fJ, fT, List.drop_zero, if_pos (by omega), List.take_of_length_le (by omega)]
   have e4 : Nat.beq (0 + n * 1) (jM (bD l)) = true := by rw [dR, hc, Nat.beq_eq]; omega
   simp only [vC, e3, aF, aG, e4, show Nat.beq 1 1 = true from rfl, grown, fB]
  ·simp only
   rw [T.get_set, if_pos rfl]
  ·simp only
   have : c ≠ b := fun e => hne (by rw [e]; rfl)
   rw [T.get_set, if_neg (by omega), T.get_set, if_neg this]
theorem gQ.self {k n : Nat} {S0 S : St} {v : AV} {cs : List AV} (h : gQ k S0 S v n cs) : cN v v = true := by
 rcases h with ⟨rfl, _⟩ | ⟨b, rfl, _⟩
 ·rfl
 ·exact mP ..
theorem gQ.cells {k n : Nat} {S0 S : St} {v : AV} {cs : List AV} (h : gQ k S0 S v n cs) : v.cells = some [v] := by
 rcases h with ⟨rfl, _⟩ | ⟨b, rfl, _⟩ <;> rfl
theorem cQ {h : T AB} {b p : Nat} {cs : List AV} {x : AV} {o : Bool} {s : Nat} (hb : h.get b = some (.cells cs o s)) (hj : cs[p]? = some x) : fK (.ptr b p) false 1 h = some x := by
 have := ldc (j := p) hb hj
 rw [Nat.zero_add] at this
 exact this
end Go.Ev.Gl
namespace Go.Ev.Gl
variable {fns : T cA}
def SlE (S : St) (cs : List AV) (l : List Int) : Prop := ∃ a, cs = [a] ∧ bS .i64 S a l
theorem aKj : aCw SlE := fun ⟨a, h, h1⟩ hs => ⟨a, h, h1.same hs⟩
theorem gQ.is {S0 S : St} {v : AV} {l : List Int} (h : gQ 1 S0 S v l.length (bD l)) : bS .i64 S v l := by
 rcases h with ⟨rfl, h0, _⟩ | ⟨b, rfl, h1, h2, h3, h4⟩
 ·exact .inl ⟨List.length_eq_zero_iff.1 h0, .inl rfl⟩
 ·refine .inr ⟨b, 0, l.length, true, bD l, rfl, Nat.le_refl _, h2, by unfold cP; rw [h3]; rfl, fun i x hi => ?_⟩
  rw [Nat.zero_add]
  unfold bD
  rw [List.getElem?_map, hi]
  rfl
theorem gQ.blk {k n c : Nat} {S0 S : St} {v : AV} {cs : List AV} (h : gQ k S0 S v n cs) (hc : aP v = some c) : S0.nx ≤ c ∧ c < S.nx ∧ S.h.get c = some (.cells cs true k) := by
 rcases h with ⟨rfl, _⟩ | ⟨b, rfl, h1, h2, h3, h4⟩
 ·cases hc
 ·cases hc; exact ⟨h1, h2, h3⟩
theorem gQ.off {k n c s : Nat} {S0 S : St} {v : AV} {cs cs' : List AV} (h : gQ k S0 S v n cs) (hc : S.h.get c = some (.cells cs' false s)) : aP v ≠ some c := fun e => by
 have := (h.blk e).2.2
 rw [hc] at this
 cases this
end Go.Ev.Gl
namespace Go.Ev.Gl
variable {fns : T cA}
theorem aH0 {x y z : AV} (h1 : cN x x = true) (h2 : cN y y = true) (h3 : cN z z = true) : cN (.agg [x, y, z]) (.agg [x, y, z]) = true := by
 simp [cN, mV, h1, h2, h3]
end Go.Ev.Gl
namespace Go.Ev.Gl
variable {fns : T cA}
theorem aEj {g : bG} {j : Nat} (hj : j < g.infos.length) : (jU g).getD j 0 = ((lQ g.nodes 0 j : Nat) : Int) := by
 unfold jU
 rw [List.getD_eq_getElem?_getD, List.getElem?_map, List.getElem?_range hj]
 rfl
end Go.Ev.Gl
