import Derived.Test.YtoojnpjgnnpllaaGl21
open Nat renaming reduceEqDiff → rE, reduceAdd → rA
set_option maxHeartbeats 16000000
set_option linter.unusedSimpArgs false
set_option linter.unusedVariables false
namespace Go.Ev.Gl
variable {fns : T eJ}
def KzI (S : St) (g : Nat) (k : Nat) (A : bT) (S' : St) : Prop := A.inr = false ∧ S'.h = S.h ∧ S.nx ≤ S'.nx ∧ ∃ a b : Int, aC 0 A.F = .int .i64 a ∧ aC 1 A.F = .int .i64 b ∧ a.natAbs ≤ 9223372036854775807 ∧ b.natAbs ≤ 9223372036854775807 ∧ Nat.gcd a.natAbs b.natAbs = g ∧ b.natAbs = k
theorem aCS {S : St} {x y : Int} (H : Has fns) (hx : x.natAbs ≤ 9223372036854775807) (hy : y.natAbs ≤ 9223372036854775807) : iM fns (.fn 71 [] []) [.int .i64 x, .int .i64 y] S fun r S' => r = .int .i64 ((Nat.gcd x.natAbs y.natAbs : Nat) : Int) ∧ Same S S' := by
 refine cV H.f71 (by simp) ?_
 try simp only [↓sU,sD,rE,↓reduceIte,rA]
 refine cF ?_
 try simp only [↓sU,sD,rE,↓reduceIte,rA]
 refine aD (bN (Q := fun o A' S' => o = .normal ∧ Same S S' ∧ ∃ a : Int, aC 0 A'.F = .int .i64 a ∧ a.natAbs ≤ 9223372036854775807 ∧ a.natAbs = Nat.gcd x.natAbs y.natAbs) ?_ ?_)
 ·refine aU (cI (KzI S (Nat.gcd x.natAbs y.natAbs)) ?_ y.natAbs _ _ ⟨rfl, rfl, Af _, x, y, by simp only [↓sU,sD,rE,↓reduceIte,rA], by simp only [↓sU,sD,rE,↓reduceIte,rA], hx, hy, rfl, rfl⟩)
  rintro k ⟨F, inr⟩ S' ⟨q0, hh, hnx, a, b, p0, p1, ha, hb, hg, rfl⟩
  simp only at q0 p0 p1
  subst q0
  refine jH ?_
  simp only [↓sU,sD,rE,↓reduceIte,rA, p1]
  by_cases h0 : b = 0
  ·refine aT (by simp only [↓sU,sD,rE,↓reduceIte,rA, Aa (show ¬ b ≠ 0 from fun h => h h0)]) (cC ?_)
   rw [h0] at hg
   simp only [↓sU,sD,rE,↓reduceIte,rA]
   refine ⟨aGQ hh hnx, a, by simp only [↓sU,sD,rE,↓reduceIte,rA, p0], ha, ?_⟩
   rw [← hg]
   exact (Nat.gcd_zero_right _).symm
  ·refine aY (by simp only [↓sU,sD,rE,↓reduceIte,rA, Ad (show b ≠ 0 from h0)]) (aN ?_)
   try simp only [↓sU,sD,rE,↓reduceIte,rA]
   have hrem := aCJ (.p .int) (a := a) (b := b) h0
   have hn : (a.tmod b).natAbs = a.natAbs % b.natAbs := Int.natAbs_tmod a b
   have hlt := Nat.mod_lt a.natAbs (show 0 < b.natAbs by omega)
   refine aU (gE ?_)
   simp only [↓sU,sD,rE,↓reduceIte,rA, p0, p1, hrem]
   refine ⟨(a.tmod b).natAbs, by omega, rfl, hh, by simp; omega, b, a.tmod b, by simp only [↓sU,sD,rE,↓reduceIte,rA], by simp only [↓sU,sD,rE,↓reduceIte,rA], hb, by omega, ?_, rfl⟩
   rw [← hg, hn, Nat.gcd_comm a.natAbs b.natAbs, Nat.gcd_rec b.natAbs a.natAbs, Nat.gcd_comm]
 ·rintro o ⟨F, inr⟩ S' ⟨rfl, hS, a, p0, ha, hg⟩
  simp only at p0
  try simp only [↓sU,sD,rE,↓reduceIte,rA]
  have hw : IntKind.i64.wrap (-a) = -a := wrap_i64 (by omega) (by omega)
  have hm : mx a (-a) = ((Nat.gcd x.natAbs y.natAbs : Nat) : Int) := by rw [← hg]; unfold mx; split <;> omega
  refine cF ?_
  simp only [↓sU,sD,rE,↓reduceIte,rA, p0, aDY, hw, aBE, jL, nK, aDG, hm]
  refine bD ?_
  simp only [↓sU,sD,rE,↓reduceIte,rA]
  exact hS
def vG (f : Nat → Rat) : Nat → Rat
 | 0 => 0
 | n + 1 => vG f n + f n
def aIa (f : Nat → Int) : Nat → Int
 | 0 => 0
 | n + 1 => aIa f n + f n
def mP (c : List Int) (x : cM) : Nat := if x.info < c.length ∧ 0 ≤ c.getD x.info.toNat 0 ∧ c.getD x.info.toNat 0 < x.next.length then (c.getD x.info.toNat 0).toNat else 0
def nE (g : bF) (c : List Int) (q : Nat) : Nat → Nat → Rat
 | 0, _ => 0
 | f + 1, i =>
  if (nodeAt g i).kind = 3 then (((nodeAt g i).pay.getD q 0 : Int) : Rat)
  else if (nodeAt g i).kind = 2 then nE g c q f ((nodeAt g i).next.getD (mP c (nodeAt g i)) 0).toNat
  else vG (fun j => (((nodeAt g i).weights.getD j 0 : Int) : Rat) * nE g c q f ((nodeAt g i).next.getD j 0).toNat) (nodeAt g i).next.length / ((aIa (fun j => (nodeAt g i).weights.getD j 0) (nodeAt g i).next.length : Int) : Rat)
def fT : Nat → List Int → Nat
 | d, [] => d
 | d, x :: l => fT (Nat.gcd d x.natAbs) l
theorem pX : ∀ {l : List Int} {d : Nat}, fT d l ∣ d ∧ ∀ x ∈ l, fT d l ∣ x.natAbs
 | [], d => ⟨Nat.dvd_refl _, fun x h => by cases h⟩
 | y :: l, d => by
  obtain ⟨h1, h2⟩ := pX (l := l) (d := Nat.gcd d y.natAbs)
  refine ⟨Nat.dvd_trans h1 (Nat.gcd_dvd_left ..), fun x hx => ?_⟩
  rcases Br.1 hx with rfl | hx
  ·exact Nat.dvd_trans h1 (Nat.gcd_dvd_right ..)
  ·exact h2 x hx
theorem aEK : ∀ {l : List Int} {d k : Nat}, k ∣ d → (∀ x ∈ l, k ∣ x.natAbs) → k ∣ fT d l
 | [], d, k, h, _ => h
 | y :: l, d, k, h, h2 => aEK (l := l) (Nat.dvd_gcd h (h2 y (Bm ..))) fun x hx => h2 x (Bg _ hx)
theorem aDS {l : List Int} {d : Nat} (h : 0 < d) : 0 < fT d l := Nat.pos_of_dvd_of_pos pX.1 h
structure aDq (v : Nat → Rat) (n : Nat) (P : List Int) (d : Nat) : Prop where
 len : P.length = n
 pos : 0 < d
 eq : ∀ q, q < n → ((P.getD q 0 : Int) : Rat) = v q * (d : Int)
 low : fT d P = 1
theorem aGn {v : Nat → Rat} {n : Nat} {P P' : List Int} {d d' : Nat} (h : aDq v n P d) (h' : aDq v n P' d') : d ∣ d' := by
 have hm : ∀ q, q < n → P.getD q 0 * (d' : Int) = P'.getD q 0 * (d : Int) := fun q hq => by
  have e1 := h.eq q hq
  have e2 := h'.eq q hq
  have : ((P.getD q 0 * (d' : Int) : Int) : Rat) = ((P'.getD q 0 * (d : Int) : Int) : Rat) := by
   rw [Du, Du, e1, e2]
   grind
  exact Rat.intCast_inj.1 this
 have key : d ∣ fT (d * d') (P.map (· * (d' : Int))) := aEK (Nat.dvd_mul_right ..) fun x hx => by
  obtain ⟨y, hy, rfl⟩ := Dr.1 hx
  obtain ⟨q, hq, rfl⟩ := Eb.1 hy
  have e : P.getD q 0 = P[q] := by rw [Ac, Ab hq]; rfl
  have := hm q (by rw [← h.len]; exact hq)
  rw [e] at this
  rw [this, Eu, Dc]
  exact Nat.dvd_mul_left ..
 have scale : ∀ (l : List Int) (k : Nat), fT (k * d') (l.map (· * (d' : Int))) = fT k l * d' := fun l => by
  induction l with
  | nil => intro k; rfl
  | cons x l ih =>
   intro k
   show fT (Nat.gcd (k * d') (x * (d' : Int)).natAbs) _ = fT (Nat.gcd k x.natAbs) l * d'
   rw [Eu, Dc, Nat.gcd_mul_right, ih]
 rw [scale, h.low, Eo] at key
 exact key
theorem aKN {v : Nat → Rat} {n : Nat} {P P' : List Int} {d d' : Nat} (h : aDq v n P d) (h' : aDq v n P' d') : P = P' ∧ d = d' := by
 have hd : d = d' := Nat.dvd_antisymm (aGn h h') (aGn h' h)
 subst hd
 refine ⟨tG (by rw [h.len, h'.len]) fun q hq => ?_, rfl⟩
 have := (h.eq q (by rw [← h.len]; exact hq)).trans (h'.eq q (by rw [← h.len]; exact hq)).symm
 exact Rat.intCast_inj.1 this
theorem yL {i : Int} : ∀ {L : List cE} {T : List cE} {a : Nat}, T.drop a = L → ∀ (l : List Nat), l.Pairwise (· < ·) → (∀ x ∈ l, a ≤ x ∧ ∃ t, T[x]? = some t ∧ t.1 = i) → (l.map (eG T)).sum ≤ lQ i L a
 | [], T, a, hd, l, _, hl => by
  cases l with
  | nil => exact Af _
  | cons x l =>
   obtain ⟨h1, t, h2, _⟩ := hl x (Bm ..)
   have := (Ai.1 h2).1
   have h3 := congrArg List.length hd
   rw [Cq] at h3
   simp only [Bz] at h3
   omega
 | t :: L, T, a, hd, l, hp, hl => by
  have hlen : a < T.length := by
   have h3 := congrArg List.length hd
   rw [Cq, Az] at h3
   omega
  have e := Cj hlen
  rw [hd] at e
  injection e with e1 e2
  show _ ≤ (if t.1 = i then (t.2.2 + 1 - (a : Int)).toNat else 0) + lQ i L (a + 1)
  cases l with
  | nil => exact Ci _
  | cons x l =>
   obtain ⟨hx1, u, hx2, hx3⟩ := hl x (Bm ..)
   have hp' := List.pairwise_cons.1 hp
   by_cases hxa : x = a
   ·subst hxa
    have ht : T[x]? = some t := by rw [Ab hlen, e1]
    rw [ht] at hx2
    cases hx2
    rw [if_pos hx3, Dd, List.sum_cons]
    have ih := yL (i := i) (T := T) (a := x + 1) (L := L) e2.symm l hp'.2 fun y hy => ⟨hp'.1 y hy, (hl y (Bg _ hy)).2⟩
    have es : eG T x = (t.2.2 + 1 - (x : Int)).toNat := by unfold eG; rw [ht]
    omega
   ·have ih := yL (i := i) (T := T) (a := a + 1) (L := L) e2.symm (x :: l) hp fun y hy => by
     refine ⟨?_, (hl y hy).2⟩
     rcases Br.1 hy with rfl | hy
     ·omega
     ·have := hp'.1 y hy; omega
    omega
theorem aBy {T : List cE} {g : bF} (hT : fK g = some T) (hl : T.length = g.nodes.length) {i : Nat} (hi : i < g.nodes.length) : 1 + (((nodeAt g i).next.map Int.toNat).map (eG T)).sum ≤ eG T i := by
 have hw : eS g.nodes.length (dN g) (g.nodes.length + 1) 0 (-1) 0 = some T := hT
 have k := wY (by decide) hw
 have hf := kR hw
 have hnx : dN g (0 + i) = (nodeAt g i).next := by rw [Am]; exact iA g i
 obtain ⟨e1, _⟩ := wL k (show i < T.length by omega)
 have hinc := hf.inc i (by omega)
 rw [hnx] at hinc
 have hcf := hf.cf i (by omega)
 rw [hnx] at hcf
 have hpw : ((nodeAt g i).next.map Int.toNat).Pairwise (· < ·) := by
  rw [List.pairwise_map]
  refine List.Pairwise.imp_of_mem (fun {a b} ha hb h => ?_) hinc
  have := hcf a ha
  have := hcf b hb
  omega
 have := yL (i := (i : Int)) (T := T) (a := 0) (L := T) rfl _ hpw fun x hx => by
  obtain ⟨y, hy, rfl⟩ := Dr.1 hx
  obtain ⟨_, h2, h3⟩ := hcf y hy
  refine ⟨Ci _, ?_⟩
  unfold jC at h3
  rw [Nat.sub_zero, Aw] at h3
  obtain ⟨t, a, b⟩ := h3
  exact ⟨t, a, by rw [b]; omega⟩
 omega
theorem aEt {h : Nat → Rat} {x : Rat} {j : Nat} : ∀ {n : Nat}, vG (fun k => if k = j then x else h k) n = if j < n then vG h n + x - h j else vG h n
 | 0 => by simp only [vG, Bv, Dy]
 | n + 1 => by
  simp only [vG]
  rw [aEt (n := n)]
  by_cases h1 : j < n
  ·rw [if_pos h1, if_neg (show ¬ n = j by omega), if_pos (show j < n + 1 by omega)]
   grind
  ·by_cases h2 : n = j
   ·subst h2
    rw [if_neg h1, if_pos rfl, if_pos (show n < n + 1 by omega)]
    grind
   ·rw [if_neg h1, if_neg h2, if_neg (show ¬ j < n + 1 by omega)]
theorem xL : ∀ {n : Nat} {f h : Nat → Rat} {p : Nat → Nat}, (∀ k, k < n → p k < n) → (∀ k l, k < n → l < n → p k = p l → k = l) → (∀ k, k < n → f k = h (p k)) → vG f n = vG h n
 | 0, f, h, p, _, _, _ => rfl
 | n + 1, f, h, p, hp, hj, he => by
  have ih := xL (n := n) (f := f) (h := fun k => if k = p n then h n else h k) (p := fun k => if p k = n then p n else p k) (fun k hk => by
   have h1 := hp k (by omega)
   have h2 := hp n (by omega)
   show (if p k = n then p n else p k) < n
   by_cases e : p k = n
   ·rw [if_pos e]
    have : p n ≠ n := fun e2 => by
     have := hj k n (by omega) (by omega) (by omega)
     omega
    omega
   ·rw [if_neg e]; omega) (fun k l hk hl e => by
   have e : (if p k = n then p n else p k) = (if p l = n then p n else p l) := e
   have a := hj k l (by omega) (by omega)
   have b := hj k n (by omega) (by omega)
   have c := hj l n (by omega) (by omega)
   split at e
   ·split at e
    ·exact a (by omega)
    ·have := c (by omega); omega
   ·split at e
    ·have := b (by omega); omega
    ·exact a (by omega)) (fun k hk => by
   show f k = (if (if p k = n then p n else p k) = p n then h n else h (if p k = n then p n else p k))
   rw [he k (by omega)]
   by_cases e : p k = n
   ·rw [if_pos e, if_pos rfl, e]
   ·rw [if_neg e, if_neg (fun e2 => by have := hj k n (by omega) (by omega) e2; omega)])
  simp only [vG]
  rw [ih, aEt, he n (by omega)]
  by_cases e : p n < n
  ·rw [if_pos e]
   grind
  ·rw [if_neg e, show p n = n by have := hp n (by omega); omega]
theorem xR {f : Nat → Int} : ∀ {n : Nat}, ((aIa f n : Int) : Rat) = vG (fun k => ((f k : Int) : Rat)) n
 | 0 => rfl
 | n + 1 => by
  simp only [aIa, vG]
  rw [Rat.intCast_add, xR (n := n)]
section
variable {g : bF} {a b c c' m : List Int}
theorem aEU (G : dT g) (C : aDV g c) {i : Nat} (hi : i < g.nodes.length) (hk : (nodeAt g i).kind = 2) : mP c (nodeAt g i) = (c.getD (nodeAt g i).info.toNat 0).toNat ∧ mP c (nodeAt g i) < (nodeAt g i).next.length := by
 obtain ⟨h1, h2, h3⟩ := G.inf i hi hk
 obtain ⟨q1, q2⟩ := C.ok (nodeAt g i).info.toNat (by omega)
 rw [show (((nodeAt g i).info.toNat : Nat) : Int) = (nodeAt g i).info by omega, h3] at q2
 have hl := C.len
 have e : mP c (nodeAt g i) = (c.getD (nodeAt g i).info.toNat 0).toNat := by
  unfold mP
  rw [if_pos ⟨by omega, q1, q2⟩]
 rw [e]
 exact ⟨rfl, by omega⟩
theorem yB (A : fR g m) {i k : Nat} (hi : i < g.nodes.length) (hk : k < (nodeAt g i).next.length) : (fC g m i k).toNat < (nodeAt g (eK m i)).next.length ∧ ((nodeAt g (eK m i)).next.getD (fC g m i k).toNat 0).toNat = eK m ((nodeAt g i).next.getD k 0).toNat := by
 obtain ⟨h1, h2⟩ := aCI (A.A.kid i k hi hk)
 refine ⟨h1, ?_⟩
 unfold fC
 rw [h2]
 rfl
def aLi (g : bF) (m c c' : List Int) : Prop := c'.length = g.infos.length ∧ ∀ s, s < g.infos.length → c'.getD ((imgI g m).getD s 0).toNat 0 = ((imgA g m).getD s []).getD (c.getD s 0).toNat 0
theorem mW {s : Nat} (hs : s < g.infos.length) : (imgI g m).getD s 0 = (nodeAt g (eK m (fN g s))).info := by
 unfold imgI
 rw [Ac, Bc, Dh hs]
 rfl
theorem aAh {s : Nat} (hs : s < g.infos.length) : (imgA g m).getD s [] = (List.range (nodeAt g (fN g s)).next.length).map fun k => fC g m (fN g s) k := by
 unfold imgA
 rw [Ac, Bc, Dh hs]
 rfl
theorem vM {s k : Nat} (hs : s < g.infos.length) (hk : k < (nodeAt g (fN g s)).next.length) : ((imgA g m).getD s []).getD k 0 = fC g m (fN g s) k := by
 rw [aAh hs, Ac, Bc, Dh hk]
 rfl
theorem aHX (G : dT g) {s : Nat} (hs : s < g.infos.length) : (infoAt g (s : Int)).actions = (((nodeAt g (fN g s)).next.length : Nat) : Int) := by
 obtain ⟨h1, h2, h3⟩ := G.fst s hs
 have := (G.inf _ h1 h2).2.2
 rwa [h3] at this
theorem aET (G : dT g) {i j : Nat} (hi : i < g.nodes.length) (hj : j < g.nodes.length) (hk : (nodeAt g i).kind = 2) (hk2 : (nodeAt g j).kind = 2) (e : (nodeAt g i).info = (nodeAt g j).info) : (nodeAt g i).next.length = (nodeAt g j).next.length := by
 have a3 := (G.inf i hi hk).2.2
 have b3 := (G.inf j hj hk2).2.2
 rw [← e, a3] at b3
 omega
theorem aAt (G : dT g) (A : fR g m) {s : Nat} (hs : s < g.infos.length) : 0 ≤ (imgI g m).getD s 0 ∧ (imgI g m).getD s 0 < g.infos.length := by
 obtain ⟨h1, h2, h3⟩ := G.fst s hs
 rw [mW hs]
 have := G.inf _ (A.M.at h1).2 (by rw [← (A.A.like _ h1).1]; exact h2)
 exact ⟨this.1, this.2.1⟩
theorem aCh (G : dT g) (A : fR g m) {i : Nat} (hi : i < g.nodes.length) (hk : (nodeAt g i).kind = 2) : (imgI g m).getD (nodeAt g i).info.toNat 0 = (nodeAt g (eK m i)).info := by
 obtain ⟨h1, h2, _⟩ := G.inf i hi hk
 have hs : (nodeAt g i).info.toNat < g.infos.length := by omega
 obtain ⟨f1, f2, f3⟩ := G.fst _ hs
 rw [mW hs]
 exact (A.A.info _ _ f1 hi f2 hk (by omega)).1
theorem aCL (G : dT g) (A : fR g m) {i k : Nat} (hi : i < g.nodes.length) (hk : (nodeAt g i).kind = 2) (hkl : k < (nodeAt g i).next.length) : ((imgA g m).getD (nodeAt g i).info.toNat []).getD k 0 = fC g m i k := by
 obtain ⟨h1, h2, _⟩ := G.inf i hi hk
 have hs : (nodeAt g i).info.toNat < g.infos.length := by omega
 obtain ⟨f1, f2, f3⟩ := G.fst _ hs
 have e : (nodeAt g (fN g (nodeAt g i).info.toNat)).info = (nodeAt g i).info := by omega
 have el := aET G f1 hi f2 hk e
 rw [vM hs (by omega)]
 exact (A.A.info _ _ f1 hi f2 hk e).2 k (by omega)
theorem aIz (G : dT g) (A : fR g m) {s t : Nat} (hs : s < g.infos.length) (ht : t < g.infos.length) (e : (imgI g m).getD s 0 = (imgI g m).getD t 0) : s = t := by
 obtain ⟨f1, f2, f3⟩ := G.fst _ hs
 obtain ⟨k1, k2, k3⟩ := G.fst _ ht
 rw [mW hs, mW ht] at e
 have := A.A.inj _ _ f1 k1 f2 k2 e
 omega
theorem aHo (G : dT g) (A : fR g a) (B : fR g b) {s : Nat} (hs : s < g.infos.length) : (imgI g (jG a b)).getD s 0 = (imgI g b).getD ((imgI g a).getD s 0).toNat 0 := by
 obtain ⟨f1, f2, f3⟩ := G.fst _ hs
 rw [mW hs, mW hs, aAx A.M f1]
 exact (aCh G B (A.M.at f1).2 (by rw [← (A.A.like _ f1).1]; exact f2)).symm
theorem aHk (G : dT g) (A : fR g a) (B : fR g b) {s k : Nat} (hs : s < g.infos.length) (hk : k < (nodeAt g (fN g s)).next.length) : ((imgA g (jG a b)).getD s []).getD k 0 = ((imgA g b).getD ((imgI g a).getD s 0).toNat []).getD (((imgA g a).getD s []).getD k 0).toNat 0 := by
 obtain ⟨f1, f2, f3⟩ := G.fst _ hs
 obtain ⟨p1, p2⟩ := aCl (b := b) G A.M f1 hk (A.A.kid _ _ f1 hk)
 rw [vM hs hk, vM hs hk, mW hs, aCL G B (A.M.at f1).2 (by rw [← (A.A.like _ f1).1]; exact f2) p2]
 exact p1
theorem aKt (G : dT g) (A : fR g a) (B : fR g b) {s k : Nat} (hs : s < g.infos.length) (hk : k < (nodeAt g (fN g s)).next.length) : 0 ≤ ((imgA g a).getD s []).getD k 0 ∧ ((imgA g a).getD s []).getD k 0 < (((imgA g b).getD ((imgI g a).getD s 0).toNat []).length : Nat) := by
 obtain ⟨f1, f2, f3⟩ := G.fst _ hs
 have h0 := A.A.kid _ _ f1 hk
 obtain ⟨p1, _⟩ := yB A f1 hk
 obtain ⟨i1, i2⟩ := aAt G A hs
 have hs' : ((imgI g a).getD s 0).toNat < g.infos.length := by omega
 obtain ⟨k1, k2, k3⟩ := G.fst _ hs'
 rw [vM hs hk, aAh hs', Av, Cy]
 have e := aET G k1 (A.M.at f1).2 k2 (by rw [← (A.A.like _ f1).1]; exact f2) (by rw [k3, mW hs]; have := aAt G A hs; rw [mW hs] at this; omega)
 omega
theorem aJr (G : dT g) (A : fR g m) (C : aDV g c) (I : aLi g m c c') {i : Nat} (hi : i < g.nodes.length) (hk : (nodeAt g i).kind = 2) : c'.getD (nodeAt g (eK m i)).info.toNat 0 = fC g m i (mP c (nodeAt g i)) := by
 obtain ⟨h1, h2, _⟩ := G.inf i hi hk
 obtain ⟨p1, p2⟩ := aEU G C hi hk
 have := I.2 (nodeAt g i).info.toNat (by omega)
 rw [aCh G A hi hk, ← p1, aCL G A hi hk p2] at this
 exact this
theorem aBs (G : dT g) (K : ∀ i, i < g.nodes.length → (nodeAt g i).kind = 1 ∨ (nodeAt g i).kind = 2 ∨ (nodeAt g i).kind = 3) (A : fR g m) (C : aDV g c) (I : aLi g m c c') {q : Nat} : ∀ {f i : Nat}, i < g.nodes.length → nE g c q f i = nE g c' q f (eK m i)
 | 0, _, _ => rfl
 | f + 1, i, hi => by
  obtain ⟨l1, l2, l3, l4⟩ := A.A.like i hi
  have hi' := (A.M.at hi).2
  simp only [nE]
  rw [← l1, ← l2, ← l3]
  by_cases h3 : (nodeAt g i).kind = 3
  ·rw [if_pos h3, if_pos h3]
  rw [if_neg h3, if_neg h3]
  by_cases h2 : (nodeAt g i).kind = 2
  ·rw [if_pos h2, if_pos h2]
   obtain ⟨p1, p2⟩ := aEU G C hi h2
   have e := aJr G A C I hi h2
   obtain ⟨k1, k2⟩ := yB A hi p2
   have h0 := A.A.kid i _ hi p2
   have hinf := G.inf _ hi' (by rw [← l1]; exact h2)
   have hp : mP c' (nodeAt g (eK m i)) = (fC g m i (mP c (nodeAt g i))).toNat := by
    unfold mP
    rw [e, if_pos ⟨by have := I.1; omega, h0, by omega⟩]
    rfl
   rw [hp, k2]
   exact aBs G K A C I (by have := G.kids i hi _ p2; omega)
  ·rw [if_neg h2, if_neg h2]
   have h1 : (nodeAt g i).kind = 1 := by rcases K i hi with h | h | h <;> first | exact h | exact absurd h h2 | exact absurd h h3
   have hp : ∀ k, k < (nodeAt g i).next.length → (fC g m i k).toNat < (nodeAt g i).next.length := fun k hk => by rw [l2]; exact (yB A hi hk).1
   have hj : ∀ k l, k < (nodeAt g i).next.length → l < (nodeAt g i).next.length → (fC g m i k).toNat = (fC g m i l).toNat → k = l := fun k l hk hl e => by
    have ek := (yB A hi hk).2
    have el := (yB A hi hl).2
    rw [e, el] at ek
    have ck := G.kids i hi k hk
    have cl := G.kids i hi l hl
    have := A.inj (by omega) (by omega) ek.symm
    exact (G.only hi hk hi hl (by omega)).2
   have hw : ∀ k, k < (nodeAt g i).next.length → (nodeAt g i).weights.getD k 0 = (nodeAt g (eK m i)).weights.getD (fC g m i k).toNat 0 := fun k hk => A.A.weigh i k hi hk h1
   have e1 := xL (f := fun k => (((nodeAt g i).weights.getD k 0 : Int) : Rat)) (h := fun k => (((nodeAt g (eK m i)).weights.getD k 0 : Int) : Rat)) hp hj fun k hk => by
    show (((nodeAt g i).weights.getD k 0 : Int) : Rat) = _
    rw [hw k hk]
   have e2 := xL (f := fun k => (((nodeAt g i).weights.getD k 0 : Int) : Rat) * nE g c q f ((nodeAt g i).next.getD k 0).toNat) (h := fun k => (((nodeAt g (eK m i)).weights.getD k 0 : Int) : Rat) * nE g c' q f ((nodeAt g (eK m i)).next.getD k 0).toNat) hp hj fun k hk => by
    have := G.kids i hi k hk
    show _ = (((nodeAt g (eK m i)).weights.getD (fC g m i k).toNat 0 : Int) : Rat) * nE g c' q f ((nodeAt g (eK m i)).next.getD (fC g m i k).toNat 0).toNat
    rw [hw k hk, (yB A hi hk).2, aBs G K A C I (f := f) (i := ((nodeAt g i).next.getD k 0).toNat) (by omega)]
   rw [xR, xR, e1, e2]
end
theorem aCc {d e : Nat} (hd : 0 < d) (he : 0 < e) : ∃ a b : Nat, 0 < a ∧ 0 < b ∧ 0 < Nat.gcd d e ∧ d = Nat.gcd d e * a ∧ e = Nat.gcd d e * b ∧ d / Nat.gcd d e = a ∧ e / Nat.gcd d e = b ∧ d / Nat.gcd d e * e = a * (Nat.gcd d e * b) := by
 have hg : 0 < Nat.gcd d e := Nat.gcd_pos_of_pos_left _ hd
 obtain ⟨a, ha⟩ := Nat.gcd_dvd_left d e
 obtain ⟨b, hb⟩ := Nat.gcd_dvd_right d e
 have h1 : d / Nat.gcd d e = a := by
  have := Nat.mul_div_cancel_left a hg
  rwa [← ha] at this
 have h2 : e / Nat.gcd d e = b := by
  have := Nat.mul_div_cancel_left b hg
  rwa [← hb] at this
 refine ⟨a, b, ?_, ?_, hg, ha, hb, h1, h2, by rw [h1, ← hb]⟩
 ·rcases Be a with h | h
  ·rw [h] at ha; omega
  ·exact h
 ·rcases Be b with h | h
  ·rw [h] at hb; omega
  ·exact h
theorem aIk {P p w s : Int} {d e : Nat} {S v : Rat} (hd : 0 < d) (he : 0 < e) (hP : ((P : Int) : Rat) = S * ((d : Nat) : Int)) (hp : ((p : Int) : Rat) = v * ((e : Nat) : Int)) (bP : P.natAbs ≤ 3 * s.toNat * d) (bp : p.natAbs ≤ 3 * e) (hs : 0 ≤ s) (hw : 0 ≤ w) :
  ((P * ((e / Nat.gcd d e : Nat) : Int) + w * p * ((d / Nat.gcd d e : Nat) : Int) : Int) : Rat) = (S + ((w : Int) : Rat) * v) * ((d / Nat.gcd d e * e : Nat) : Int) ∧
  (P * ((e / Nat.gcd d e : Nat) : Int)).natAbs ≤ 3 * s.toNat * (d / Nat.gcd d e * e) ∧ (w * p).natAbs ≤ 3 * w.toNat * (d / Nat.gcd d e * e) ∧ (w * p * ((d / Nat.gcd d e : Nat) : Int)).natAbs ≤ 3 * w.toNat * (d / Nat.gcd d e * e) ∧
  (P * ((e / Nat.gcd d e : Nat) : Int) + w * p * ((d / Nat.gcd d e : Nat) : Int)).natAbs ≤ 3 * (s + w).toNat * (d / Nat.gcd d e * e) := by
 obtain ⟨a, b, ha, hb, hg, ed, ee, q1, q2, q3⟩ := aCc hd he
 rw [q3, q1, q2]
 generalize Nat.gcd d e = k at ed ee hg
 subst ed ee
 have b1 : (P * ((b : Nat) : Int)).natAbs ≤ 3 * s.toNat * (a * (k * b)) := by
  rw [Eu, Dc]
  calc P.natAbs * b ≤ 3 * s.toNat * (k * a) * b := Bu _ bP
   _ = _ := by rw [Nat.mul_assoc, Nat.mul_comm k a, Nat.mul_assoc a k b]
 have b2 : (w * p).natAbs ≤ 3 * w.toNat * (k * b) := by
  rw [Eu]
  calc w.natAbs * p.natAbs ≤ w.natAbs * (3 * (k * b)) := Nat.mul_le_mul_left _ bp
   _ = _ := by rw [← Nat.mul_assoc, Nat.mul_comm w.natAbs 3, show w.natAbs = w.toNat by omega]
 have b3 : (w * p * ((a : Nat) : Int)).natAbs ≤ 3 * w.toNat * (a * (k * b)) := by
  rw [Eu, Dc]
  calc (w * p).natAbs * a ≤ 3 * w.toNat * (k * b) * a := Bu _ b2
   _ = _ := by rw [Nat.mul_assoc, Nat.mul_comm (k * b) a]
 refine ⟨?_, b1, ?_, b3, ?_⟩
 ·rw [Rat.intCast_add, Du, Du, Du, hP, hp]
  simp only [Eg, Du]
  grind
 ·exact Al b2 (Nat.mul_le_mul_left _ (Nat.le_mul_of_pos_left _ ha))
 ·have : 3 * (s + w).toNat * (a * (k * b)) = 3 * s.toNat * (a * (k * b)) + 3 * w.toNat * (a * (k * b)) := by
   rw [← Dq, ← Nat.mul_add]
   congr 2
   omega
  omega
theorem aJk {n : Nat} (h : n ≤ 29) : 3 ^ n ≤ 68630377364883 := Al (Nat.pow_le_pow_right (by decide) h) (by decide)
theorem aLy {d e x y : Nat} (hd : 0 < d) (he : 0 < e) (h1 : d ≤ 3 ^ x) (h2 : e ≤ 3 ^ y) : 0 < d / Nat.gcd d e * e ∧ d / Nat.gcd d e * e ≤ 3 ^ (x + y) := by
 obtain ⟨a, b, ha, hb, hg, ed, ee, q1, q2, q3⟩ := aCc hd he
 refine ⟨Nat.mul_pos (by rw [q1]; exact ha) he, ?_⟩
 rw [Nat.pow_add]
 exact Dl (Al (Nat.div_le_self _ _) h1) h2
def addN (f : Nat → Nat) : Nat → Nat
 | 0 => 0
 | n + 1 => addN f n + f n
theorem zC {f : Nat → Nat} {m : Nat} : ∀ {n : Nat}, m ≤ n → addN f m ≤ addN f n
 | 0, h => by rw [Nat.le_zero.1 h]; exact Af _
 | n + 1, h => by
  rcases Cn n m with h1 | h1
  ·rw [show m = n + 1 by omega]; exact Af _
  ·exact Al (zC h1) (Ck ..)
theorem aE6 {l : List Int} {f : Nat → Nat} : ((l.map Int.toNat).map f).sum = addN (fun k => f (l.getD k 0).toNat) l.length := by
 have key : ∀ n, n ≤ l.length → (((l.take n).map Int.toNat).map f).sum = addN (fun k => f (l.getD k 0).toNat) n := fun n => by
  induction n with
  | zero => intro _; simp [addN]
  | succ n ih =>
   intro hn
   simp only [addN]
   rw [List.take_succ_eq_append_getElem (by omega), Co, Co, List.sum_append, ih (by omega), Ac, Ab (by omega)]
   simp
 have := key l.length (Af _)
 rwa [List.take_length] at this
theorem aEz {f : Nat → Nat} : ∀ {n : Nat}, (∀ k, k < n → 1 ≤ f k) → addN (fun k => f k - 1) n + n = addN f n
 | 0, _ => rfl
 | n + 1, h => by
  have ih := aEz (n := n) fun k hk => h k (by omega)
  have := h n (by omega)
  simp only [addN]
  omega
def vQ (T : List cE) (g : bF) (i j : Nat) : Nat := addN (fun k => eG T ((nodeAt g i).next.getD k 0).toNat - 1) j
theorem aJq {T : List cE} {g : bF} (hT : fK g = some T) (hl : T.length = g.nodes.length) {i : Nat} (hi : i < g.nodes.length) : 1 ≤ eG T i := by
 have := aBy hT hl hi
 omega
theorem aDt {T : List cE} {g : bF} (hT : fK g = some T) (hl : T.length = g.nodes.length) {i : Nat} (hi : i < g.nodes.length) : eG T i + i ≤ g.nodes.length := by
 have hw : eS g.nodes.length (dN g) (g.nodes.length + 1) 0 (-1) 0 = some T := hT
 have k := wY (by decide) hw
 obtain ⟨e1, e2, e3⟩ := wL k (show i < T.length by omega)
 omega
theorem aDa {T : List cE} {g : bF} (G : dT g) (hT : fK g = some T) (hl : T.length = g.nodes.length) {i : Nat} (hi : i < g.nodes.length) : vQ T g i (nodeAt g i).next.length + (nodeAt g i).next.length ≤ eG T i - 1 := by
 have h := aBy hT hl hi
 rw [aE6] at h
 have := aEz (f := fun k => eG T ((nodeAt g i).next.getD k 0).toNat) (n := (nodeAt g i).next.length) fun k hk => aJq hT hl (by have := G.kids i hi k hk; omega)
 unfold vQ
 omega
theorem aIi {T : List cE} {g : bF} (hT : fK g = some T) (hl : T.length = g.nodes.length) (G : dT g) {i k : Nat} (hi : i < g.nodes.length) (hk : k < (nodeAt g i).next.length) : eG T ((nodeAt g i).next.getD k 0).toNat + 1 ≤ eG T i := by
 have h := aBy hT hl hi
 rw [aE6] at h
 have : ∀ m, k < m → eG T ((nodeAt g i).next.getD k 0).toNat ≤ addN (fun k => eG T ((nodeAt g i).next.getD k 0).toNat) m := fun m hm => by
  induction m with
  | zero => omega
  | succ m ih =>
   simp only [addN]
   rcases Cn k m with h1 | h1
   ·have := ih h1; omega
   ·rw [show k = m by omega]; omega
 have := this _ hk
 omega
theorem aI5 {k : Nat} : 3 * k ≤ 3 ^ k := by
 induction k with
 | zero => decide
 | succ k ih =>
  rw [Nat.pow_succ]
  rcases k with _ | k
  ·decide
  ·omega
theorem aFN {l : List Int} {k t : Nat} : fT (k * t) (l.map (· * ((t : Nat) : Int))) = fT k l * t := by
 induction l generalizing k with
 | nil => rfl
 | cons x l ih =>
  show fT (Nat.gcd (k * t) (x * ((t : Nat) : Int)).natAbs) _ = fT (Nat.gcd k x.natAbs) l * t
  rw [Eu, Dc, Nat.gcd_mul_right, ih]
theorem aKn {v : Nat → Rat} {n : Nat} {P : List Int} {d : Nat} (hl : P.length = n) (hd : 0 < d) (he : ∀ q, q < n → ((P.getD q 0 : Int) : Rat) = v q * ((d : Nat) : Int)) : aDq v n (P.map fun x : Int => x.tdiv ((fT d P : Nat) : Int)) (d / fT d P) := by
 have hg : 0 < fT d P := aDS hd
 obtain ⟨h1, h2⟩ := pX (l := P) (d := d)
 have hP : (P.map fun x : Int => x.tdiv ((fT d P : Nat) : Int)).map (· * ((fT d P : Nat) : Int)) = P := by
  rw [Ei]
  refine (Dt fun x hx => ?_).trans (List.map_id _)
  exact Int.tdiv_mul_cancel (Int.ofNat_dvd_left.2 (h2 x hx))
 have hD : d / fT d P * fT d P = d := Nat.div_mul_cancel h1
 have hq : 0 < d / fT d P := Nat.pos_of_ne_zero fun h => by rw [h] at hD; omega
 refine ⟨by rw [Av]; exact hl, hq, fun q hq' => ?_, ?_⟩
 ·have e := he q hq'
  have e1 : P.getD q 0 = (P.map fun x : Int => x.tdiv ((fT d P : Nat) : Int)).getD q 0 * ((fT d P : Nat) : Int) := by
   have hq2 : q < P.length := by omega
   have e2 : P.getD q 0 = P[q] := by rw [Ac, Ab hq2]; rfl
   rw [e2, Ac, Bc, Ab hq2]
   exact (Int.tdiv_mul_cancel (Int.ofNat_dvd_left.2 (h2 _ (Bt hq2)))).symm
  rw [e1] at e
  have e3 : (((d : Nat) : Int) : Rat) = (((d / fT d P : Nat) : Int) : Rat) * (((fT d P : Nat) : Int) : Rat) := by
   rw [← Du, ← Eg, hD]
  rw [Du, e3, ← Rat.mul_assoc] at e
  have h0 : (((fT d P : Nat) : Int) : Rat) ≠ 0 := fun h => by
   have : ((fT d P : Nat) : Int) = 0 := Rat.intCast_inj.1 h
   omega
  have := congrArg (· * (((fT d P : Nat) : Int) : Rat)⁻¹) e
  simp only [Rat.mul_assoc, Rat.mul_inv_cancel _ h0, Rat.mul_one] at this
  exact this
 ·have := aFN (l := P.map fun x => x.tdiv ((fT d P : Nat) : Int)) (k := d / fT d P) (t := fT d P)
  rw [hP, hD] at this
  exact Nat.eq_of_mul_eq_mul_right hg (by omega)
structure aHZ (g : bF) (T : List cE) (c : List Int) (f i n j : Nat) (P : List Int) (d : Nat) (s : Int) : Prop where
 len : P.length = n
 pos : 0 < d
 le : d ≤ 3 ^ vQ T g i j
 sum : s = aIa (fun k => (nodeAt g i).weights.getD k 0) j
 eq : ∀ q, q < n → ((P.getD q 0 : Int) : Rat) = vG (fun k => (((nodeAt g i).weights.getD k 0 : Int) : Rat) * nE g c q f ((nodeAt g i).next.getD k 0).toNat) j * ((d : Nat) : Int)
 bd : ∀ q, q < n → (P.getD q 0).natAbs ≤ 3 * s.toNat * d
section
variable {g : bF} {T : List cE} {c P P' p : List Int} {f i n j d e : Nat} {s w : Int}
theorem aEn (h : aHZ g T c f i n j P d s) (hc : aDq (fun q => nE g c q f ((nodeAt g i).next.getD j 0).toNat) n p e) (he : e ≤ 3 ^ (eG T ((nodeAt g i).next.getD j 0).toNat - 1)) (hp : ∀ q, q < n → (p.getD q 0).natAbs ≤ 3 * e) (hw : w = (nodeAt g i).weights.getD j 0) (w0 : 0 ≤ w) (s0 : 0 ≤ s) :
  0 < d / Nat.gcd d e * e ∧ d / Nat.gcd d e * e ≤ 3 ^ vQ T g i (j + 1) ∧
  (∀ q, q < n → (P.getD q 0 * ((e / Nat.gcd d e : Nat) : Int)).natAbs ≤ 3 * s.toNat * (d / Nat.gcd d e * e) ∧ (w * p.getD q 0).natAbs ≤ 3 * w.toNat * (d / Nat.gcd d e * e) ∧ (w * p.getD q 0 * ((d / Nat.gcd d e : Nat) : Int)).natAbs ≤ 3 * w.toNat * (d / Nat.gcd d e * e)) ∧
  ∀ P', P'.length = n → (∀ q, q < n → P'.getD q 0 = P.getD q 0 * ((e / Nat.gcd d e : Nat) : Int) + w * p.getD q 0 * ((d / Nat.gcd d e : Nat) : Int)) → aHZ g T c f i n (j + 1) P' (d / Nat.gcd d e * e) (s + w) := by
 obtain ⟨l1, l2⟩ := aLy h.pos hc.pos h.le he
 have hS := fun q (hq : q < n) => aIk (P := P.getD q 0) (p := p.getD q 0) (w := w) (s := s) h.pos hc.pos (h.eq q hq) (hc.eq q hq) (h.bd q hq) (hp q hq) s0 w0
 have l3 : d / Nat.gcd d e * e ≤ 3 ^ vQ T g i (j + 1) := l2
 refine ⟨l1, l3, fun q hq => ?_, fun P' hl hP => ⟨hl, l1, l3, ?_, fun q hq => ?_, fun q hq => ?_⟩⟩
 ·obtain ⟨_, b1, b2, b3, _⟩ := hS q hq
  exact ⟨b1, b2, b3⟩
 ·rw [h.sum, hw]
  rfl
 ·rw [hP q hq, (hS q hq).1, hw]
  rfl
 ·rw [hP q hq]
  exact (hS q hq).2.2.2.2
theorem aIU : aHZ g T c f i n 0 (List.replicate n 0) 1 0 := by
 refine ⟨Ap .., Nat.one_pos, Af _, rfl, fun q hq => ?_, fun q hq => ?_⟩
 ·rw [Ac, Ca, if_pos hq]
  show ((0 : Int) : Rat) = 0 * _
  rw [Rat.zero_mul]
  rfl
 ·rw [Ac, Ca, if_pos hq]
  exact Ci _
theorem aKd (G : dT g) (hT : fK g = some T) (hl : T.length = g.nodes.length) (hi : i < g.nodes.length) (hk : (nodeAt g i).kind = 1) (h : aHZ g T c f i n (nodeAt g i).next.length P d s) (s1 : 1 ≤ s) (s2 : s ≤ 3 * (nodeAt g i).next.length) :
  aDq (fun q => nE g c q (f + 1) i) n (P.map fun x : Int => x.tdiv ((fT (d * s.toNat) P : Nat) : Int)) (d * s.toNat / fT (d * s.toNat) P) ∧ d * s.toNat ≤ 3 ^ (eG T i - 1) ∧ 0 < d * s.toNat ∧ ∀ q, q < n → ((P.map fun x : Int => x.tdiv ((fT (d * s.toNat) P : Nat) : Int)).getD q 0).natAbs ≤ 3 * (d * s.toNat / fT (d * s.toNat) P) := by
 have hpos : 0 < d * s.toNat := Nat.mul_pos h.pos (by omega)
 have hsR : ((s : Int) : Rat) ≠ 0 := fun e => by
  have : s = 0 := Rat.intCast_inj.1 e
  omega
 have hlow := aKn (v := fun q => nE g c q (f + 1) i) h.len hpos fun q hq => by
  rw [h.eq q hq]
  simp only [nE]
  rw [if_neg (by omega), if_neg (by omega), ← h.sum]
  have e1 : (((d * s.toNat : Nat) : Int) : Rat) = ((d : Nat) : Int) * ((s : Int) : Rat) := by
   rw [← Du]
   congr 1
   rw [Eg, Dg (by omega)]
  rw [e1]
  generalize vG _ _ = x
  generalize (((d : Nat) : Int) : Rat) = y
  rw [Rat.mul_comm y, ← Rat.mul_assoc, Rat.div_mul_cancel hsR]
 refine ⟨hlow, ?_, hpos, fun q hq => ?_⟩
 ·have he := aDa G hT hl hi
  have h3 := aI5 (k := (nodeAt g i).next.length)
  calc d * s.toNat ≤ 3 ^ vQ T g i (nodeAt g i).next.length * 3 ^ (nodeAt g i).next.length := Dl h.le (by omega)
   _ = 3 ^ (vQ T g i (nodeAt g i).next.length + (nodeAt g i).next.length) := (Nat.pow_add ..).symm
   _ ≤ _ := Nat.pow_le_pow_right (by decide) he
 ·have hb := h.bd q hq
  have hq2 : q < P.length := by rw [h.len]; exact hq
  obtain ⟨h1, h2⟩ := pX (l := P) (d := d * s.toNat)
  have e2 : P.getD q 0 = P[q] := by rw [Ac, Ab hq2]; rfl
  have hd := h2 _ (Bt hq2)
  rw [← e2] at hd
  have e3 : (P.map fun x : Int => x.tdiv ((fT (d * s.toNat) P : Nat) : Int)).getD q 0 = (P.getD q 0).tdiv ((fT (d * s.toNat) P : Nat) : Int) := by
   rw [e2, Ac, Bc, Ab hq2]
   rfl
  rw [e3, Int.natAbs_tdiv, Dc]
  have : 3 * (d * s.toNat / fT (d * s.toNat) P) = 3 * (d * s.toNat) / fT (d * s.toNat) P := (Nat.mul_div_assoc 3 h1).symm
  rw [this]
  exact Nat.div_le_div_right (by rw [Nat.mul_comm d, ← Nat.mul_assoc]; exact hb)
end
section
variable {S : St} {nv iv av : AV} {g : bF} {a : List Int}
theorem sI (H : Has fns) (hf : dF g = 0) (hn : aM 6 cL S nv g.nodes) (hi : aM 2 dB S iv g.infos) (ha : bO .i64 S av a) (A : fR g a) :
  iM fns (.fn 21 [] []) [.agg [.int .i64 g.players, nv, iv], av] S fun r S' => Same S S' ∧ ∃ v, r = .tup [v, .int .i64 0] ∧ bO .i64 S' v (imgI g a) :=
 aW (aF2 (P := aF3 g a) (ok := lG g a) H (vI (g := g) (m := a)) hn hi ha (by have := (jA hf).n2; omega) (aGh H hn hi ha)) fun r S' h => by
  obtain ⟨s, x, y, e, _, p⟩ := h
  rw [A.chk hf] at e
  obtain ⟨S0, _, q, _⟩ := p (A.chk hf)
  exact ⟨s, x, e, q.is⟩
theorem oO (H : Has fns) (hf : dF g = 0) (hn : aM 6 cL S nv g.nodes) (hi : aM 2 dB S iv g.infos) (ha : bO .i64 S av a) (A : fR g a) :
  iM fns (.fn 22 [] []) [.agg [.int .i64 g.players, nv, iv], av] S fun r S' => Same S S' ∧ ∃ v, r = .tup [v, .int .i64 0] ∧ aM 1 SlE S' v (imgA g a) :=
 aW (aCT (P := aF3 g a) (ok := lG g a) H (vI (g := g) (m := a)) hn hi ha (by have := (jA hf).n2; omega) (aGh H hn hi ha)) fun r S' h => by
  obtain ⟨s, x, y, e, _, p⟩ := h
  rw [A.chk hf] at e
  obtain ⟨S0, _, _, ab, bs, cs, rfl, _, h2, h3, h4⟩ := p (A.chk hf)
  exact ⟨s, _, e, h4.is h3 h2 (Af _)⟩
end
def PuF (x0 x3 : AV) (n rb xb : Nat) (d s i : Int) (F : Fr) : Prop := aC 0 F = x0 ∧ aC 2 F = .int .i64 (n : Int) ∧ aC 3 F = x3 ∧ aC 8 F = .sl rb 0 n n false ∧ aC 9 F = .int .i64 d ∧ aC 10 F = .ptr xb 0 ∧ aC 12 F = .int .i64 s ∧ aC 13 F = .int .i64 i
noncomputable def aMz : List AO := [mt 104 8,
mt 105 17,
mt 106 8,
mt 107 17,
om 108 12 (.iaddr (.slice 1) (.t 106) (.t 107)),
om 109 28 (ld 108),
mt 110 15,
mt 111 16,
om 112 192 (bi .quo (.t 110) (.t 111)),
om 113 508 (bi .mul (.t 109) (.t 112)),
oq 114 (.faddr 4 (.t 10)),
om 115 1024 (ld 114),
mt 116 13,
om 117 7168 (.iaddr (.slice 1) (.t 115) (.t 116)),
om 118 15360 (ld 117),
mt 119 14,
mt 120 17,
om 121 98304 (.iaddr (.slice 1) (.t 119) (.t 120)),
om 122 229376 (ld 121),
om 123 523264 (bi .mul (.t 118) (.t 122)),
mt 124 9,
mt 125 16,
om 126 3145728 (bi .quo (.t 124) (.t 125)),
om 127 8387584 (bi .mul (.t 123) (.t 126)),
om 128 16777212 (bi .add (.t 113) (.t 127)),
om 129 33554431 (.iaddr (.slice 1) (.t 104) (.t 105))]
def aM0 (Y : St) (rb n : Nat) (P : List Int) (f : Nat → Int) (Z : Fr → Prop) (k : Nat) (A : bT) (X : St) : Prop := A.inr = false ∧ cU rb Y X ∧ ∃ (q : Nat) (l : List Int), q + k = n ∧ l.length = n ∧ (∀ j, j < q → l.getD j 0 = f j) ∧ (∀ j, q ≤ j → j < n → l.getD j 0 = P.getD j 0) ∧ X.h.get rb = some (.cells (bB l) false 0) ∧ Z A.F ∧ aC 17 A.F = .int .i64 (q : Int)
def aL3 (x0 x3 pv : AV) (n rb xb : Nat) (d s i e g : Int) (F : Fr) : Prop := PuF x0 x3 n rb xb d s i F ∧ aC 14 F = pv ∧ aC 15 F = .int .i64 e ∧ aC 16 F = .int .i64 g
theorem aLG {Y : St} {F0 : Fr} {x0 x3 pv xa xw xp k0 k1 k2 : AV} {n rb xb d e t j : Nat} {s : Int} {P p w : List Int} (ht : 0 < t) (hn : n ≤ 1000) (hd : d ≤ 1000000000000000) (he : e ≤ 1000000000000000)
  (hr : Y.h.get rb = some (.cells (bB P) false 0)) (rl : rb < Y.nx) (hP : P.length = n) (hx : Y.h.get xb = some (.cells [k0, k1, k2, xa, xw, xp] false 0)) (xl : xb < Y.nx) (xr : xb ≠ rb)
  (hw : bO .i64 Y xw w) (wr : ∀ c, aQ xw = some c → c ≠ rb) (hj : j < w.length) (hp : bO .i64 Y pv p) (pr : ∀ c, aQ pv = some c → c ≠ rb) (hpl : p.length = n)
  (hb : ∀ q, q < n → (P.getD q 0 * ((e / t : Nat) : Int)).natAbs ≤ 1000000000000000000 ∧ (w.getD j 0 * p.getD q 0).natAbs ≤ 1000000000000000000 ∧ (w.getD j 0 * p.getD q 0 * ((d / t : Nat) : Int)).natAbs ≤ 1000000000000000000)
  (hZ : aL3 x0 x3 pv n rb xb d s j e t F0) :
  kH fns (.seq (.reg [oq 17 (.mv (ci 0))])
(.block 3 (.loop (.seq (.seq (.reg [mt 99 17,
mt 100 2,
oq 101 (bi .lss (.t 99) (.t 100))])
(.cond (.t 101) .skip (.exit 3)))
(.seq (.block 4 (.drw [mt 104 8,
mt 105 17,
mt 106 8,
mt 107 17,
om 108 12 (.iaddr (.slice 1) (.t 106) (.t 107)),
om 109 28 (ld 108),
mt 110 15,
mt 111 16,
om 112 192 (bi .quo (.t 110) (.t 111)),
om 113 508 (bi .mul (.t 109) (.t 112)),
oq 114 (.faddr 4 (.t 10)),
om 115 1024 (ld 114),
mt 116 13,
om 117 7168 (.iaddr (.slice 1) (.t 115) (.t 116)),
om 118 15360 (ld 117),
mt 119 14,
mt 120 17,
om 121 98304 (.iaddr (.slice 1) (.t 119) (.t 120)),
om 122 229376 (ld 121),
om 123 523264 (bi .mul (.t 118) (.t 122)),
mt 124 9,
mt 125 16,
om 126 3145728 (bi .quo (.t 124) (.t 125)),
om 127 8387584 (bi .mul (.t 123) (.t 126)),
om 128 16777212 (bi .add (.t 113) (.t 127)),
om 129 33554431 (.iaddr (.slice 1) (.t 104) (.t 105)),
⟨none,(.x (.st 1 (.t 129) (.t 128))),none,67108863⟩]))
(.reg [mt 102 17,
oq 103 (bi .add (.t 102) (ci 1)),
mt 17 103])))))) ⟨F0, false⟩ Y fun o A' X => o = .normal ∧ aM0 Y rb n P (fun q => P.getD q 0 * ((e / t : Nat) : Int) + w.getD j 0 * p.getD q 0 * ((d / t : Nat) : Int)) (aL3 x0 x3 pv n rb xb d s j e t) 0 A' X := by
 obtain ⟨⟨p0, p2, p3, p8, p9, p10, p12, p13⟩, p14, p15, p16⟩ := hZ
 refine cF ?_
 simp only [↓sU,sD,rE,↓reduceIte,rA]
 refine aU (cI (aM0 Y rb n P (fun q => P.getD q 0 * ((e / t : Nat) : Int) + w.getD j 0 * p.getD q 0 * ((d / t : Nat) : Int)) (aL3 x0 x3 pv n rb xb d s j e t)) ?_ n _ _ ⟨rfl, cU.refl _ _, 0, P, by omega, hP, fun j hj => by omega, fun _ _ _ => rfl, hr, ⟨(by refine ⟨?_,?_,?_,?_,?_,?_,?_,?_⟩<;>simp only [↓sU,sD,rE,↓reduceIte,rA,p0,p2,p3,p8,p9,p10,p12,p13]), by refine ⟨?_,?_,?_⟩<;>simp only [↓sU,sD,rE,↓reduceIte,rA,p14,p15,p16]⟩, by simp only [↓sU,sD,rE,↓reduceIte,rA]; try rfl⟩)
 clear p0 p2 p3 p8 p9 p10 p12 p13 p14 p15 p16
 rintro k ⟨F, inr⟩ X ⟨q0, hX, q, l, hqk, hl, h1, h2, hrX, ⟨⟨p0, p2, p3, p8, p9, p10, p12, p13⟩, p14, p15, p16⟩, p17⟩
 simp only at q0 p0 p2 p3 p8 p9 p10 p12 p13 p14 p15 p16 p17
 subst q0
 refine jH ?_
 simp only [↓sU,sD,rE,↓reduceIte,rA, p2, p17]
 by_cases hlt : q < n
 rotate_left
 ·refine aT (by simp only [↓sU,sD,rE,↓reduceIte,rA, Aa (show ¬ (q : Int) < (n : Int) by omega)]) (cC ?_)
  simp only [↓sU,sD,rE,↓reduceIte,rA]
  obtain rfl : k = 0 := by omega
  exact ⟨rfl, hX, q, l, hqk, hl, h1, h2, hrX, ⟨(by refine ⟨?_,?_,?_,?_,?_,?_,?_,?_⟩<;>simp only [↓sU,sD,rE,↓reduceIte,rA,p0,p2,p3,p8,p9,p10,p12,p13]), by refine ⟨?_,?_,?_⟩<;>simp only [↓sU,sD,rE,↓reduceIte,rA,p14,p15,p16]⟩, by simp only [↓sU,sD,rE,↓reduceIte,rA, p17]⟩
 refine aY (by simp only [↓sU,sD,rE,↓reduceIte,rA, Ad (show (q : Int) < (n : Int) by omega)]) (aN ?_)
 try simp only [↓sU,sD,rE,↓reduceIte,rA]
 obtain ⟨b1, b2, b3⟩ := hb q hlt
 have w0 : IntKind.i64.wrap ((q : Int) + 1) = ((q + 1 : Nat) : Int) := by rw [wrap_i64 (by omega) (by omega)]; omega
 have hlq : q < l.length := by omega
 have hia := fV (b := rb) (o := false) hlt
 have hlr := aBV hrX hlq
 rw [h2 q (Af _) hlt] at hlr
 have hxX := (hX.2 xb xl xr).trans hx
 have hwX := fF hw hX.1 fun c hc => hX.2 c (dV hw hc) (wr c hc)
 have hpX := fF hp hX.1 fun c hc => hX.2 c (dV hp hc) (pr c hc)
 have iw := hwX.iaddr hj
 have lw := hwX.ld hj
 have ip := hpX.iaddr (show q < p.length by omega)
 have lp := hpX.ld (show q < p.length by omega)
 have hf : (fun q => P.getD q 0 * ((e / t : Nat) : Int) + w.getD j 0 * p.getD q 0 * ((d / t : Nat) : Int)) q = P.getD q 0 * ((e / t : Nat) : Int) + w.getD j 0 * p.getD q 0 * ((d / t : Nat) : Int) := rfl
 have e1 : lE .quo (.p .int) (.int .i64 ((e : Nat) : Int)) (.int .i64 ((t : Nat) : Int)) = some (.int .i64 ((e / t : Nat) : Int)) := pU (.p .int) (by omega) (by omega) (by omega)
 have e2 : lE .quo (.p .int) (.int .i64 ((d : Nat) : Int)) (.int .i64 ((t : Nat) : Int)) = some (.int .i64 ((d / t : Nat) : Int)) := pU (.p .int) (by omega) (by omega) (by omega)
 generalize P.getD q 0 = x at *
 generalize p.getD q 0 = y at *
 generalize w.getD j 0 = z at *
 generalize e / t = u at *
 generalize d / t = v at *
 have m1 : IntKind.i64.wrap (x * ((u : Nat) : Int)) = x * ((u : Nat) : Int) := wrap_i64 (by omega) (by omega)
 have m2 : IntKind.i64.wrap (z * y) = z * y := wrap_i64 (by omega) (by omega)
 have m3 : IntKind.i64.wrap (z * y * ((v : Nat) : Int)) = z * y * ((v : Nat) : Int) := wrap_i64 (by omega) (by omega)
 have m4 : IntKind.i64.wrap (x * ((u : Nat) : Int) + z * y * ((v : Nat) : Int)) = x * ((u : Nat) : Int) + z * y * ((v : Nat) : Int) := wrap_i64 (by omega) (by omega)
 refine aD (aU (mL (pre := aMz) (K := 26) (m := 67108863) (n := 1) (x := .t 129) (v := .t 128) rfl rfl rfl rfl ?_))
 unfold aMz
 simp only [↓aH,aJ,rE,↓reduceIte, rA, bO.self hw, p8, p9, p10, p13, p14, p15, p16, p17, aA, aO, aB, fL hxX, aG, hia, hlr, iw, lw, ip, lp, e1, e2, m1, m2, m3, m4]
 simp only [cT, aE]
 refine ⟨_, uA (S := ⟨X.h, X.nx + 27⟩) hrX hlq, ?_⟩
 try simp only [↓sU,sD,rE,↓reduceIte,rA]
 refine aP ?_
 simp only [↓sU,sD,rE,↓reduceIte,rA, p17, w0]
 refine ⟨k - 1, by omega, rfl, (hX.nx 27).put _, q + 1, l.set q (x * ((u : Nat) : Int) + z * y * ((v : Nat) : Int)), by omega, by rw [Au]; exact hl, fun i hi => ?_, fun i hi hi2 => ?_, by simp only; rw [T.get_set, if_pos rfl], ⟨(by refine ⟨?_,?_,?_,?_,?_,?_,?_,?_⟩<;>simp only [↓sU,sD,rE,↓reduceIte,rA,p0,p2,p3,p8,p9,p10,p12,p13]), by refine ⟨?_,?_,?_⟩<;>simp only [↓sU,sD,rE,↓reduceIte,rA,p14,p15,p16]⟩, by simp only [↓sU,sD,rE,↓reduceIte,rA]⟩
 ·rw [fS hlq]
  split
  ·rename_i e; rw [e]; exact hf.symm
  ·exact h1 i (by omega)
 ·rw [fS hlq, if_neg (by omega)]
  exact h2 i (by omega) hi2
theorem aCR {x : Int} : ∀ {l : List Int} {d : Nat}, fT d (l ++ [x]) = Nat.gcd (fT d l) x.natAbs
 | [], d => rfl
 | y :: l, d => aCR (l := l) (d := Nat.gcd d y.natAbs)
theorem aGd {l : List Int} {d : Nat} (h : 0 < d) : fT d l ≤ d := Nat.le_of_dvd h pX.1
def GcI (Y : St) (n d : Nat) (P : List Int) (Z : Fr → Prop) (k : Nat) (A : bT) (X : St) : Prop := A.inr = false ∧ Same Y X ∧ ∃ (q : Nat), q + k = n ∧ Z A.F ∧ aC 18 A.F = .int .i64 ((fT d (P.take q) : Nat) : Int) ∧ aC 19 A.F = .int .i64 (q : Int)
theorem aKS {Y : St} {F0 : Fr} {x0 x3 : AV} {n rb xb d : Nat} {s i : Int} {P : List Int} (H : Has fns) (hd : 0 < d) (hd2 : d ≤ 1000000000000000) (hn : n ≤ 1000) (hr : Y.h.get rb = some (.cells (bB P) false 0)) (rl : rb < Y.nx) (hP : P.length = n)
  (hb : ∀ q, q < n → (P.getD q 0).natAbs ≤ 1000000000000000000) (hZ : PuF x0 x3 n rb xb d s i F0) (p18 : aC 18 F0 = .int .i64 (d : Int)) :
  kH fns (.seq (.reg [oq 19 (.mv (ci 0))])
(.block 5 (.loop (.seq (.seq (.reg [mt 146 19,
mt 147 2,
oq 148 (bi .lss (.t 146) (.t 147))])
(.cond (.t 148) .skip (.exit 5)))
(.seq (.block 6 (.reg [mt 151 18,
mt 152 8,
mt 153 19,
oq 154 (.iaddr (.slice 1) (.t 152) (.t 153)),
oq 155 (ld 154),
oc 156 71 [(.t 151),(.t 155)] 0,
mt 18 156]))
(.reg [mt 149 19,
oq 150 (bi .add (.t 149) (ci 1)),
mt 19 150])))))) ⟨F0, false⟩ Y fun o A' X => o = .normal ∧ GcI Y n d P (PuF x0 x3 n rb xb d s i) 0 A' X := by
 obtain ⟨p0, p2, p3, p8, p9, p10, p12, p13⟩ := hZ
 refine cF ?_
 simp only [↓sU,sD,rE,↓reduceIte,rA]
 refine aU (cI (GcI Y n d P (PuF x0 x3 n rb xb d s i)) ?_ n _ _ ⟨rfl, Same.refl _, 0, by omega, (by refine ⟨?_,?_,?_,?_,?_,?_,?_,?_⟩<;>simp only [↓sU,sD,rE,↓reduceIte,rA,p0,p2,p3,p8,p9,p10,p12,p13]), by simp only [↓sU,sD,rE,↓reduceIte,rA, p18]; try rfl, by simp only [↓sU,sD,rE,↓reduceIte,rA]; try rfl⟩)
 clear p0 p2 p3 p8 p9 p10 p12 p13 p18
 rintro k ⟨F, inr⟩ X ⟨q0, hX, q, hqk, ⟨p0, p2, p3, p8, p9, p10, p12, p13⟩, p18, p19⟩
 simp only at q0 p0 p2 p3 p8 p9 p10 p12 p13 p18 p19
 subst q0
 refine jH ?_
 simp only [↓sU,sD,rE,↓reduceIte,rA, p2, p19]
 by_cases hlt : q < n
 rotate_left
 ·refine aT (by simp only [↓sU,sD,rE,↓reduceIte,rA, Aa (show ¬ (q : Int) < (n : Int) by omega)]) (cC ?_)
  simp only [↓sU,sD,rE,↓reduceIte,rA]
  obtain rfl : k = 0 := by omega
  exact ⟨rfl, hX, q, hqk, (by refine ⟨?_,?_,?_,?_,?_,?_,?_,?_⟩<;>simp only [↓sU,sD,rE,↓reduceIte,rA,p0,p2,p3,p8,p9,p10,p12,p13]), by refine ⟨?_,?_⟩<;>simp only [↓sU,sD,rE,↓reduceIte,rA,p18,p19]⟩
 refine aY (by simp only [↓sU,sD,rE,↓reduceIte,rA, Ad (show (q : Int) < (n : Int) by omega)]) (aN ?_)
 try simp only [↓sU,sD,rE,↓reduceIte,rA]
 have b1 := hb q hlt
 have w0 : IntKind.i64.wrap ((q : Int) + 1) = ((q + 1 : Nat) : Int) := by rw [wrap_i64 (by omega) (by omega)]; omega
 have hlq : q < P.length := by omega
 have hia := fV (b := rb) (o := false) hlt
 have hlr := aBV ((hX.2 _ rl).trans hr) hlq
 have hg := aGd (l := P.take q) hd
 have htk : P.take (q + 1) = P.take q ++ [P.getD q 0] := by
  rw [Cl, Ab hlq, Ac, Ab hlq]
  rfl
 refine aD (aU (aP ?_))
 simp only [↓sU,sD,rE,↓reduceIte,rA, p8, p18, p19, aG, hia, hlr]
 refine bJ ?_
 simp only [↓sU,sD,rE,↓reduceIte,rA]
 refine aW (aCS H (x := ((fT d (P.take q) : Nat) : Int)) (y := P.getD q 0) (by omega) (by omega)) ?_
 rintro _ X1 ⟨rfl, hX1⟩
 rw [Dc, ← aCR, ← htk]
 try simp only [↓sU,sD,rE,↓reduceIte,rA]
 refine aP ?_
 simp only [↓sU,sD,rE,↓reduceIte,rA, p19, w0]
 exact ⟨k - 1, by omega, rfl, hX.trans hX1, q + 1, by omega, (by refine ⟨?_,?_,?_,?_,?_,?_,?_,?_⟩<;>simp only [↓sU,sD,rE,↓reduceIte,rA,p0,p2,p3,p8,p9,p10,p12,p13]), by refine ⟨?_,?_⟩<;>simp only [↓sU,sD,rE,↓reduceIte,rA]⟩
def aNr (Y : St) (rb n : Nat) (P : List Int) (f : Nat → Int) (Z : Fr → Prop) (k : Nat) (A : bT) (X : St) : Prop := A.inr = false ∧ cU rb Y X ∧ ∃ (q : Nat) (l : List Int), q + k = n ∧ l.length = n ∧ (∀ j, j < q → l.getD j 0 = f j) ∧ (∀ j, q ≤ j → j < n → l.getD j 0 = P.getD j 0) ∧ X.h.get rb = some (.cells (bB l) false 0) ∧ Z A.F ∧ aC 20 A.F = .int .i64 (q : Int)
def aLE (n rb : Nat) (d g : Int) (F : Fr) : Prop := aC 2 F = .int .i64 (n : Int) ∧ aC 8 F = .sl rb 0 n n false ∧ aC 9 F = .int .i64 d ∧ aC 18 F = .int .i64 g
theorem aLF {Y : St} {F0 : Fr} {n rb d t : Nat} {P : List Int} (ht : 0 < t) (hn : n ≤ 1000) (hr : Y.h.get rb = some (.cells (bB P) false 0)) (hP : P.length = n)
  (hb : ∀ q, q < n → (P.getD q 0).natAbs ≤ 1000000000000000000) (hZ : aLE n rb d t F0) :
  kH fns (.seq (.reg [oq 20 (.mv (ci 0))])
(.block 7 (.loop (.seq (.seq (.reg [mt 157 20,
mt 158 2,
oq 159 (bi .lss (.t 157) (.t 158))])
(.cond (.t 159) .skip (.exit 7)))
(.seq (.block 8 (.reg [mt 162 8,
mt 163 20,
mt 164 8,
mt 165 20,
oq 166 (.iaddr (.slice 1) (.t 164) (.t 165)),
oq 167 (ld 166),
mt 168 18,
oq 169 (bi .quo (.t 167) (.t 168)),
oq 170 (.iaddr (.slice 1) (.t 162) (.t 163)),
⟨none,(.x (.st 1 (.t 170) (.t 169))),none,0⟩]))
(.reg [mt 160 20,
oq 161 (bi .add (.t 160) (ci 1)),
mt 20 161])))))) ⟨F0, false⟩ Y fun o A' X => o = .normal ∧ aNr Y rb n P (fun q => (P.getD q 0).tdiv ((t : Nat) : Int)) (aLE n rb d t) 0 A' X := by
 obtain ⟨p2, p8, p9, p18⟩ := hZ
 refine cF ?_
 simp only [↓sU,sD,rE,↓reduceIte,rA]
 refine aU (cI (aNr Y rb n P (fun q => (P.getD q 0).tdiv ((t : Nat) : Int)) (aLE n rb d t)) ?_ n _ _ ⟨rfl, cU.refl _ _, 0, P, by omega, hP, fun j hj => by omega, fun _ _ _ => rfl, hr, (by refine ⟨?_,?_,?_,?_⟩<;>simp only [↓sU,sD,rE,↓reduceIte,rA,p2,p8,p9,p18]), by simp only [↓sU,sD,rE,↓reduceIte,rA]; try rfl⟩)
 clear p2 p8 p9 p18
 rintro k ⟨F, inr⟩ X ⟨q0, hX, q, l, hqk, hl, h1, h2, hrX, ⟨p2, p8, p9, p18⟩, p20⟩
 simp only at q0 p2 p8 p9 p18 p20
 subst q0
 refine jH ?_
 simp only [↓sU,sD,rE,↓reduceIte,rA, p2, p20]
 by_cases hlt : q < n
 rotate_left
 ·refine aT (by simp only [↓sU,sD,rE,↓reduceIte,rA, Aa (show ¬ (q : Int) < (n : Int) by omega)]) (cC ?_)
  simp only [↓sU,sD,rE,↓reduceIte,rA]
  obtain rfl : k = 0 := by omega
  exact ⟨rfl, hX, q, l, hqk, hl, h1, h2, hrX, (by refine ⟨?_,?_,?_,?_⟩<;>simp only [↓sU,sD,rE,↓reduceIte,rA,p2,p8,p9,p18]), by simp only [↓sU,sD,rE,↓reduceIte,rA, p20]⟩
 refine aY (by simp only [↓sU,sD,rE,↓reduceIte,rA, Ad (show (q : Int) < (n : Int) by omega)]) (aN ?_)
 try simp only [↓sU,sD,rE,↓reduceIte,rA]
 have b1 := hb q hlt
 have w0 : IntKind.i64.wrap ((q : Int) + 1) = ((q + 1 : Nat) : Int) := by rw [wrap_i64 (by omega) (by omega)]; omega
 have hlq : q < l.length := by omega
 have hia := fV (b := rb) (o := false) hlt
 have hlr := aBV hrX hlq
 rw [h2 q (Af _) hlt] at hlr
 have hf : (fun q => (P.getD q 0).tdiv ((t : Nat) : Int)) q = (P.getD q 0).tdiv ((t : Nat) : Int) := rfl
 have b2 : ((P.getD q 0).tdiv ((t : Nat) : Int)).natAbs ≤ 1000000000000000000 := by
  rw [Int.natAbs_tdiv]
  exact Al (Nat.div_le_self _ _) b1
 generalize P.getD q 0 = x at *
 have e1 : lE .quo (.p .int) (.int .i64 x) (.int .i64 ((t : Nat) : Int)) = some (.int .i64 (x.tdiv ((t : Nat) : Int))) := by
  rw [aCM (.p .int) (by omega), wrap_i64 (by omega) (by omega)]
 refine aD (aU (aP ?_))
 simp only [↓sU,sD,rE,↓reduceIte,rA, p8, p18, p20, aG, hia, hlr, e1]
 refine fX (fun call => by simp only [↓sU,sD,rE,↓reduceIte,rA, dW, cT]; exact uA (S := X) hrX hlq) ?_
 simp only [↓sU,sD,rE,↓reduceIte,rA]
 refine aP ?_
 simp only [↓sU,sD,rE,↓reduceIte,rA, p20, w0]
 refine ⟨k - 1, by omega, rfl, hX.put _, q + 1, l.set q (x.tdiv ((t : Nat) : Int)), by omega, by rw [Au]; exact hl, fun i hi => ?_, fun i hi hi2 => ?_, by simp only; rw [T.get_set, if_pos rfl], (by refine ⟨?_,?_,?_,?_⟩<;>simp only [↓sU,sD,rE,↓reduceIte,rA,p2,p8,p9,p18]), by simp only [↓sU,sD,rE,↓reduceIte,rA]⟩
 ·rw [fS hlq]
  split
  ·rename_i e; rw [e]; exact hf.symm
  ·exact h1 i (by omega)
 ·rw [fS hlq, if_neg (by omega)]
  exact h2 i (by omega) hi2
def aGm (g : bF) (T : List cE) (c : List Int) (f i n : Nat) (S : St) (r : AV) (S' : St) : Prop := Same S S' ∧ ∃ (v : AV) (P : List Int) (d : Nat), r = .tup [v, .int .i64 (d : Int)] ∧ bO .i64 S' v P ∧ (∀ c, aQ v = some c → S.nx ≤ c) ∧ aDq (fun q => nE g c q f i) n P d ∧ d ≤ 3 ^ (eG T i - 1) ∧ ∀ q, q < n → (P.getD q 0).natAbs ≤ 3 * d
def aMt (S : St) (g : bF) (T : List cE) (c : List Int) (f i n rb xb : Nat) (x0 x3 xa xw xp k0 k1 k2 : AV) (k : Nat) (A : bT) (X : St) : Prop := A.inr = false ∧ Same S X ∧ rb < X.nx ∧ xb < X.nx ∧ X.h.get xb = some (.cells [k0, k1, k2, xa, xw, xp] false 0) ∧ ∃ (j : Nat) (P : List Int) (d : Nat) (s : Int), j + k = (nodeAt g i).next.length ∧ aHZ g T c f i n j P d s ∧ (j : Int) ≤ s ∧ s ≤ 3 * (j : Int) ∧ X.h.get rb = some (.cells (bB P) false 0) ∧ PuF x0 x3 n rb xb d s j A.F
theorem aJd {a D : Nat} (h : a ≤ 9) (hD : D ≤ 68630377364883) : 3 * a * D ≤ 2000000000000000 := by
 have := Dl (show 3 * a ≤ 27 by omega) hD
 omega
theorem aJR {S Y : St} {F0 : Fr} {g : bF} {T : List cE} {c : List Int} {f i n rb xb : Nat} {x0 x3 xa xw xp k0 k1 k2 : AV} (H : Has fns) (G : aIw g) (hT : fK g = some T) (hTl : T.length = g.nodes.length) (hi : i < g.nodes.length) (hk : (nodeAt g i).kind = 1) (n30 : g.nodes.length ≤ 30)
  (hw3 : ∀ w ∈ (nodeAt g i).weights, 1 ≤ w ∧ w ≤ 3) (h3 : (nodeAt g i).next.length ≤ 3) (hn : n ≤ 4) (hxa : bO .i64 S xa (nodeAt g i).next) (hxw : bO .i64 S xw (nodeAt g i).weights)
  (hS : Same S Y) (hr : Y.h.get rb = some (.cells (bB (List.replicate n 0)) false 0)) (rl : rb < Y.nx) (rs : S.nx ≤ rb) (hx : Y.h.get xb = some (.cells [k0, k1, k2, xa, xw, xp] false 0)) (xl : xb < Y.nx) (xs : S.nx ≤ xb) (xr : xb ≠ rb)
  (hrec : ∀ j, j < (nodeAt g i).next.length → ∀ X, Same S X → iM fns (.fn 24 [] []) [x0, .int .i64 ((nodeAt g i).next.getD j 0), .int .i64 (n : Int), x3] X (aGm g T c f ((nodeAt g i).next.getD j 0).toNat n X))
  (hZ : aC 0 F0 = x0 ∧ aC 2 F0 = .int .i64 (n : Int) ∧ aC 3 F0 = x3 ∧ aC 8 F0 = .sl rb 0 n n false ∧ aC 9 F0 = .int .i64 1 ∧ aC 10 F0 = .ptr xb 0 ∧ aC 12 F0 = .int .i64 0) :
  kH fns (.seq (.reg [oq 13 (.mv (ci 0))])
(.block 1 (.loop (.seq (.seq (.reg [mt 77 13,
oq 78 (.faddr 3 (.t 10)),
oq 79 (ld 78),
oq 80 (.lenSl (.t 79)),
oq 81 (bi .lss (.t 77) (.t 80))])
(.cond (.t 81) .skip (.exit 1)))
(.seq (.block 2 (.seq (.reg [mt 85 0,
oq 86 (.faddr 3 (.t 10)),
oq 87 (ld 86),
mt 88 13,
oq 89 (.iaddr (.slice 1) (.t 87) (.t 88)),
oq 90 (ld 89),
mt 91 2,
mt 92 3,
oc 93 24 [(.t 85),(.t 90),(.t 91),(.t 92)] 0,
mt 84 93,
oq 94 (.extract (.t 84) 0),
oq 95 (.extract (.t 84) 1),
mt 14 94,
mt 15 95])
(.seq (.reg [mt 96 9,
mt 97 15,
oc 98 71 [(.t 96),(.t 97)] 0,
mt 16 98])
(.seq (.seq (.reg [oq 17 (.mv (ci 0))])
(.block 3 (.loop (.seq (.seq (.reg [mt 99 17,
mt 100 2,
oq 101 (bi .lss (.t 99) (.t 100))])
(.cond (.t 101) .skip (.exit 3)))
(.seq (.block 4 (.drw [mt 104 8,
mt 105 17,
mt 106 8,
mt 107 17,
om 108 12 (.iaddr (.slice 1) (.t 106) (.t 107)),
om 109 28 (ld 108),
mt 110 15,
mt 111 16,
om 112 192 (bi .quo (.t 110) (.t 111)),
om 113 508 (bi .mul (.t 109) (.t 112)),
oq 114 (.faddr 4 (.t 10)),
om 115 1024 (ld 114),
mt 116 13,
om 117 7168 (.iaddr (.slice 1) (.t 115) (.t 116)),
om 118 15360 (ld 117),
mt 119 14,
mt 120 17,
om 121 98304 (.iaddr (.slice 1) (.t 119) (.t 120)),
om 122 229376 (ld 121),
om 123 523264 (bi .mul (.t 118) (.t 122)),
mt 124 9,
mt 125 16,
om 126 3145728 (bi .quo (.t 124) (.t 125)),
om 127 8387584 (bi .mul (.t 123) (.t 126)),
om 128 16777212 (bi .add (.t 113) (.t 127)),
om 129 33554431 (.iaddr (.slice 1) (.t 104) (.t 105)),
⟨none,(.x (.st 1 (.t 129) (.t 128))),none,67108863⟩]))
(.reg [mt 102 17,
oq 103 (bi .add (.t 102) (ci 1)),
mt 17 103]))))))
(.seq (.reg [mt 130 9,
mt 131 16,
oq 132 (bi .quo (.t 130) (.t 131)),
mt 133 15,
oq 134 (bi .mul (.t 132) (.t 133)),
mt 9 134])
(.reg [mt 135 12,
oq 136 (.faddr 4 (.t 10)),
oq 137 (ld 136),
mt 138 13,
oq 139 (.iaddr (.slice 1) (.t 137) (.t 138)),
oq 140 (ld 139),
oq 141 (bi .add (.t 135) (.t 140)),
mt 12 141]))))))
(.reg [mt 82 13,
oq 83 (bi .add (.t 82) (ci 1)),
mt 13 83])))))) ⟨F0, false⟩ Y fun o A' X => o = .normal ∧ aMt S g T c f i n rb xb x0 x3 xa xw xp k0 k1 k2 0 A' X := by
 obtain ⟨p0, p2, p3, p8, p9, p10, p12⟩ := hZ
 refine cF ?_
 simp only [↓sU,sD,rE,↓reduceIte,rA]
 refine aU (cI (aMt S g T c f i n rb xb x0 x3 xa xw xp k0 k1 k2) ?_ (nodeAt g i).next.length _ _ ⟨rfl, hS, rl, xl, hx, 0, _, 1, 0, by omega, aIU, by omega, by omega, hr, ⟨by simp only [↓sU,sD,rE,↓reduceIte,rA, p0], by simp only [↓sU,sD,rE,↓reduceIte,rA, p2], by simp only [↓sU,sD,rE,↓reduceIte,rA, p3], by simp only [↓sU,sD,rE,↓reduceIte,rA, p8], by simp only [↓sU,sD,rE,↓reduceIte,rA, p9]; try rfl, by simp only [↓sU,sD,rE,↓reduceIte,rA, p10], by simp only [↓sU,sD,rE,↓reduceIte,rA, p12], by simp only [↓sU,sD,rE,↓reduceIte,rA]; try rfl⟩⟩)
 clear p0 p2 p3 p8 p9 p10 p12 hr rl hx xl hS
 rintro k ⟨F, inr⟩ X ⟨q0, hX, rl, xl, hx, j, P, d, s, hjk, hA, hs1, hs2, hr, ⟨p0, p2, p3, p8, p9, p10, p12, p13⟩⟩
 simp only at q0 p0 p2 p3 p8 p9 p10 p12 p13
 subst q0
 have hxaX := hxa.same hX
 refine jH ?_
 simp only [↓sU,sD,rE,↓reduceIte,rA, p10, p13, aA, aB, eV hx, hxaX.len, Aj]
 by_cases hj : j < (nodeAt g i).next.length
 rotate_left
 ·refine aT (by simp only [↓sU,sD,rE,↓reduceIte,rA, Aa (show ¬ (j : Int) < (((nodeAt g i).next.length : Nat) : Int) by omega)]) (cC ?_)
  simp only [↓sU,sD,rE,↓reduceIte,rA]
  obtain rfl : k = 0 := by omega
  exact ⟨rfl, hX, rl, xl, hx, j, P, d, s, hjk, hA, hs1, hs2, hr, (by refine ⟨?_,?_,?_,?_,?_,?_,?_,?_⟩<;>simp only [↓sU,sD,rE,↓reduceIte,rA,p0,p2,p3,p8,p9,p10,p12,p13])⟩
 refine aY (by simp only [↓sU,sD,rE,↓reduceIte,rA, Ad (show (j : Int) < (((nodeAt g i).next.length : Nat) : Int) by omega)]) (aN ?_)
 try simp only [↓sU,sD,rE,↓reduceIte,rA]
 have w1 : IntKind.i64.wrap ((j : Int) + 1) = ((j + 1 : Nat) : Int) := by rw [wrap_i64 (by omega) (by omega)]; omega
 have hiac := hxaX.iaddr hj
 have hlac := hxaX.ld hj
 have hrj := hrec j hj
 obtain ⟨b1, b2⟩ := G.good.kids i hi j hj
 have hexp := aDa G.good hT hTl hi
 have hsz := aDt hT hTl hi
 have hexj : vQ T g i (j + 1) ≤ vQ T g i (nodeAt g i).next.length := zC (by omega)
 have hej : vQ T g i j ≤ vQ T g i (nodeAt g i).next.length := zC (by omega)
 have hszc := aDt hT hTl (i := ((nodeAt g i).next.getD j 0).toNat) (by omega)
 have hwl := G.good.wts i hi hk
 have hjw : j < (nodeAt g i).weights.length := by omega
 obtain ⟨wj, hwj⟩ : ∃ w, (nodeAt g i).weights.getD j 0 = w := ⟨_, rfl⟩
 have hwb : 1 ≤ wj ∧ wj ≤ 3 := by
  have := hw3 (nodeAt g i).weights[j] (Bt hjw)
  rw [Ac, Ab hjw] at hwj
  rw [← hwj]
  exact this
 have hstep := @aEn g T c P
 refine aD (aU (aD (aP ?_)))
 simp only [↓sU,sD,rE,↓reduceIte,rA, p0, p2, p3, p10, p13, aA, aB, eV hx, aG, hiac, hlac]
 refine bJ ?_
 simp only [↓sU,sD,rE,↓reduceIte,rA]
 refine aW (hrj X hX) ?_
 rintro _ X1 ⟨x1, pv, p, e, rfl, hp, hpn, hlow, hle, hpb⟩
 simp only [↓sU,sD,rE,↓reduceIte,rA, vE, vD]
 have hd29 := Al hA.le (aJk (n := vQ T g i j) (by omega))
 have he29 := Al hle (aJk (by omega))
 obtain ⟨a1, a2, a3, a4⟩ := aEn hA hlow hle hpb hwj.symm (by omega) (by omega)
 have hD29 := Al a2 (aJk (n := vQ T g i (j + 1)) (by omega))
 have hdp := hA.pos
 have hep := hlow.pos
 have hgp : 0 < Nat.gcd d e := Nat.gcd_pos_of_pos_left _ hdp
 have hPl := hA.len
 have hpl := hlow.len
 clear hiac hlac hrj hexp hsz hexj hej hszc a2 hle
 refine cF ?_
 simp only [↓sU,sD,rE,↓reduceIte,rA, p9]
 refine bJ ?_
 simp only [↓sU,sD,rE,↓reduceIte,rA]
 refine aW (aCS H (x := ((d : Nat) : Int)) (y := ((e : Nat) : Int)) (by omega) (by omega)) ?_
 rintro _ X2 ⟨rfl, x2⟩
 rw [Dc, Dc]
 try simp only [↓sU,sD,rE,↓reduceIte,rA]
 have sX2 := hX.trans (x1.trans x2)
 have rl2 : rb < X2.nx := Ae rl (x1.trans x2).1
 have xl2 : xb < X2.nx := Ae xl (x1.trans x2).1
 have hr2 := ((x1.trans x2).2 _ rl).trans hr
 have hx2 := ((x1.trans x2).2 _ xl).trans hx
 have hp2 := hp.same x2
 have hpr : ∀ c, aQ pv = some c → c ≠ rb := fun c hc => by have := hpn c hc; omega
 have hwr : ∀ c, aQ xw = some c → c ≠ rb := fun c hc => by have := dV hxw hc; omega
 have hbq : ∀ q, q < n → (P.getD q 0 * ((e / Nat.gcd d e : Nat) : Int)).natAbs ≤ 1000000000000000000 ∧ ((nodeAt g i).weights.getD j 0 * p.getD q 0).natAbs ≤ 1000000000000000000 ∧ ((nodeAt g i).weights.getD j 0 * p.getD q 0 * ((d / Nat.gcd d e : Nat) : Int)).natAbs ≤ 1000000000000000000 := fun q hq => by
  obtain ⟨c1, c2, c3⟩ := a3 q hq
  rw [hwj]
  have m1 := aJd (a := s.toNat) (by omega) hD29
  have m2 := aJd (a := wj.toNat) (by omega) hD29
  exact ⟨by omega, by omega, by omega⟩
 refine aD (bN (aLG (x0 := x0) (x3 := x3) (pv := pv) (d := d) (e := e) (t := Nat.gcd d e) (j := j) (s := s) (w := (nodeAt g i).weights) (p := p) (P := P) hgp (by omega) (by omega) (by omega) hr2 rl2 hPl hx2 xl2 xr (hxw.same sX2) hwr hjw hp2 hpr hpl hbq ⟨(by refine ⟨?_,?_,?_,?_,?_,?_,?_,?_⟩<;>simp only [↓sU,sD,rE,↓reduceIte,rA,p0,p2,p3,p8,p9,p10,p12,p13]), by refine ⟨?_,?_,?_⟩<;>simp only [↓sU,sD,rE,↓reduceIte,rA]⟩) ?_)
 clear p0 p2 p3 p8 p9 p10 p12 p13
 rintro o ⟨F, inr⟩ X3 ⟨rfl, q0, x3', q, P', hqn, hPl', hPq, _, hr3, ⟨⟨p0, p2, p3, p8, p9, p10, p12, p13⟩, p14, p15, p16⟩, _⟩
 simp only at q0 p0 p2 p3 p8 p9 p10 p12 p13 p14 p15 p16
 subst q0
 obtain rfl : n = q := by omega
 have hA' := a4 P' hPl' fun q hq => by rw [hPq q hq, hwj]
 have sX3 : Same S X3 := cU.same sX2 x3' rs
 have hx3 := (x3'.2 _ xl2 xr).trans hx2
 have rl3 : rb < X3.nx := Ae rl2 x3'.1
 have xl3 : xb < X3.nx := Ae xl2 x3'.1
 have iw := (hxw.same sX3).iaddr hjw
 have lw := (hxw.same sX3).ld hjw
 rw [hwj] at lw
 have e2 : lE .quo (.p .int) (.int .i64 ((d : Nat) : Int)) (.int .i64 ((Nat.gcd d e : Nat) : Int)) = some (.int .i64 ((d / Nat.gcd d e : Nat) : Int)) := pU (.p .int) (by omega) (by omega) (by omega)
 have w2 : IntKind.i64.wrap (((d / Nat.gcd d e : Nat) : Int) * ((e : Nat) : Int)) = ((d / Nat.gcd d e * e : Nat) : Int) := by
  rw [← Eg]
  exact wrap_i64 (by omega) (by omega)
 have w3 : IntKind.i64.wrap (s + wj) = s + wj := wrap_i64 (by omega) (by omega)
 try simp only [↓sU,sD,rE,↓reduceIte,rA]
 refine cF ?_
 simp only [↓sU,sD,rE,↓reduceIte,rA, p9, p15, p16, e2, w2]
 refine aP ?_
 simp only [↓sU,sD,rE,↓reduceIte,rA, p10, p12, p13, aA, aB, fL hx3, aG, iw, lw, w3]
 refine aP ?_
 simp only [↓sU,sD,rE,↓reduceIte,rA, p13, w1]
 exact ⟨k - 1, by omega, rfl, sX3, rl3, xl3, hx3, j + 1, P', _, s + wj, by omega, hA', by omega, by omega, hr3, (by refine ⟨?_,?_,?_,?_,?_,?_,?_,?_⟩<;>simp only [↓sU,sD,rE,↓reduceIte,rA,p0,p2,p3,p8,p10])⟩
structure aCv (g : bF) (T : List cE) (n : Nat) : Prop where
 G : aIw g
 walk : fK g = some T
 len : T.length = g.nodes.length
 n30 : g.nodes.length ≤ 30
 pl : g.players = (n : Int)
 ok : ∀ x ∈ g.nodes, gT g.players g.infos x
theorem aCv.chn {g : bF} {T : List cE} {n i : Nat} (h : aCv g T n) (hi : i < g.nodes.length) (hk : (nodeAt g i).kind = 1) : aMK (nodeAt g i) := by
 rcases h.ok _ (Bx (dI hi)) with e | e | e
 ·have := e.kind; omega
 ·exact e
 ·have := e.kind; omega
theorem aCv.ends {g : bF} {T : List cE} {n i : Nat} (h : aCv g T n) (hi : i < g.nodes.length) (hk : (nodeAt g i).kind = 3) : aJU g.players (nodeAt g i) := by
 rcases h.ok _ (Bx (dI hi)) with e | e | e
 ·exact e
 ·have := e.kind; omega
 ·have := e.kind; omega
theorem yK {g : bF} {T : List cE} {c : List Int} {n : Nat} (H : Has fns) (h : aCv g T n) : ∀ {f i : Nat} {S : St} {nv cv : AV}, i < g.nodes.length → g.nodes.length ≤ i + f → aM 6 cL S nv g.nodes → bO .i64 S cv c →
  iM fns (.fn 24 [] []) [nv, .int .i64 (i : Int), .int .i64 (n : Int), cv] S (aGm g T c f i n S)
 | 0, i, S, nv, cv, hi, hf, _, _ => absurd hi (by omega)
 | f + 1, i, S, nv, cv, hi, hf, hn, hc => by
  have G := h.G
  have hn4 := G.prs
  have hpl := h.pl
  have n30 := h.n30
  have ih : ∀ j, j < (nodeAt g i).next.length → ∀ X, Same S X → iM fns (.fn 24 [] []) [nv, .int .i64 ((nodeAt g i).next.getD j 0), .int .i64 (n : Int), cv] X (aGm g T c f ((nodeAt g i).next.getD j 0).toNat n X) := fun j hj X hX => by
   obtain ⟨b1, b2⟩ := G.good.kids i hi j hj
   have := yK (f := f) (i := ((nodeAt g i).next.getD j 0).toNat) (S := X) H h (by omega) (by omega) (aM.same (E := cL) cB hn hX) (hc.same hX)
   rwa [show ((((nodeAt g i).next.getD j 0).toNat : Nat) : Int) = (nodeAt g i).next.getD j 0 by omega] at this
  obtain ⟨_, bx, qx, hiax, hbx, _, ⟨xa, xw, xp, rfl, hxa, hxw, hxp⟩, hldx, _⟩ := aM.at hn (by decide) (dI hi)
  refine cV H.f24 (by simp) ?_
  simp only [↓sU,sD,rE,↓reduceIte,rA]
  refine cF ?_
  simp only [↓sU,sD,rE,↓reduceIte,rA]
  refine cF ?_
  simp only [↓aH,aJ,rE,↓reduceIte, rA, aG, hiax, hldx]
  refine dC ?_
  intro W1 v1 k1 h1
  refine dU (b := S.nx) (by simp only [↓aH,aJ,rE,↓reduceIte, rA]) (by simp only [↓aH,aJ,rE,↓reduceIte, rA]; exact bK _) h1 rfl rfl ?_
  intro Y v2 k2 h2
  simp only [↓aH,aJ,rE,↓reduceIte, rA]
  have sY : Same S Y := v2.same v1 (Af _)
  have lxY : S.nx < Y.nx := by omega
  clear v1 v2 h1 k1
  have hxaY := hxa.same sY
  have hxpY := hxp.same sY
  have hcY := hc.same sY
  refine aD (bN (Q := fun o A' Z => (o = .normal ∧ A'.inr = false ∧ Z = Y ∧ (nodeAt g i).kind = 1 ∧ aC 0 A'.F = nv ∧ aC 2 A'.F = .int .i64 (n : Int) ∧ aC 3 A'.F = cv ∧ aC 10 A'.F = .ptr S.nx 0) ∨ (o = .ret ∧ ∃ r0 r1, aC 8 A'.F = r0 ∧ aC 9 A'.F = r1 ∧ aGm g T c (f + 1) i n S (.tup [r0, r1]) Z)) (aD (aP ?_)) ?_)
  ·simp only [↓sU,sD,rE,↓reduceIte,rA, aA, aB, fD h2]
   by_cases hk3 : (nodeAt g i).kind = 3
   ·have hE := h.ends hi hk3
    have hpn : (nodeAt g i).pay.length = n := by have := G.pay i hi hk3; omega
    refine aU (aD (aP ?_))
    simp only [↓sU,sD,rE,↓reduceIte,rA, Ad hk3]
    refine aY (by simp only [↓sU,sD,rE,↓reduceIte,rA]) ?_
    refine cF ?_
    simp only [↓aH,aJ,rE,↓reduceIte, rA]
    refine iO qC ?_
    intro Y1 y1 m1 b1
    have h21 := (y1.2 _ lxY).trans h2
    obtain ⟨r, Y2, eA, y2, hr⟩ := aAG b1 (hxpY.same y1) (by omega)
    simp only [↓aH,aJ,rE,↓reduceIte, rA, aA, aB, gI h21]
    refine fX (fun call => by simp only [↓aH,aJ,rE,↓reduceIte, rA, fU]; exact eA) ?_
    simp only [↓sU,sD,rE,↓reduceIte,rA]
    refine bD ?_
    refine .inr ⟨rfl, r, .int .i64 ((1 : Nat) : Int), by simp only [↓sU,sD,rE,↓reduceIte,rA], by simp only [↓sU,sD,rE,↓reduceIte,rA]; try rfl, ?_⟩
    rcases hr with ⟨e1, _⟩ | ⟨hG, _⟩
    ·rw [e1] at hpn
     simp only [Bz] at hpn
     omega
    ·refine ⟨(sY.trans y1).trans y2, r, (nodeAt g i).pay, 1, rfl, hG.is, fun b hb => ?_, ⟨hpn, Nat.one_pos, fun q hq => ?_, ?_⟩, Nat.pow_pos (by decide), fun q hq => ?_⟩
     ·have := y1.1
      rcases hG with ⟨_, h0, _⟩ | ⟨b', rfl, h1, _⟩
      ·omega
      ·cases hb; omega
     ·simp only [nE]
      rw [if_pos hk3]
      show _ = _ * (((1 : Int)) : Rat)
      rw [show (((1 : Int)) : Rat) = 1 from rfl, Rat.mul_one]
     ·have := pX (l := (nodeAt g i).pay) (d := 1)
      exact Nat.dvd_one.1 this.1
     ·have := hE.pay ((nodeAt g i).pay.getD q 0) (by
       rw [Ac, Ab (by omega)]
       exact Bt (by omega))
      omega
   ·refine aU (aD (aP ?_))
    simp only [↓sU,sD,rE,↓reduceIte,rA, Aa hk3]
    refine aT (by simp only [↓sU,sD,rE,↓reduceIte,rA]) ?_
    refine cF ?_
    simp only [↓sU,sD,rE,↓reduceIte,rA]
    by_cases hk2 : (nodeAt g i).kind = 2
    rotate_left
    ·refine aT (by simp only [↓sU,sD,rE,↓reduceIte,rA, Aa hk2]) (aN ?_)
     have hk1 : (nodeAt g i).kind = 1 := by rcases G.knd i hi with e | e | e <;> first | exact e | exact absurd e hk2 | exact absurd e hk3
     exact .inl ⟨rfl, rfl, rfl, hk1, by refine ⟨?_,?_,?_,?_⟩<;>simp only [↓sU,sD,rE,↓reduceIte,rA]⟩
    refine aY (by simp only [↓sU,sD,rE,↓reduceIte,rA, Ad hk2]) ?_
    obtain ⟨a1, a2, a3⟩ := G.good.inf i hi hk2
    have hm1 := G.mov i hi hk2
    obtain ⟨m, hm⟩ : ∃ m : Nat, (nodeAt g i).info = (m : Int) := ⟨(nodeAt g i).info.toNat, by omega⟩
    refine cF ?_
    simp only [↓sU,sD,rE,↓reduceIte,rA]
    have hval : nE g c = fun q f' i' => nE g c q f' i' := rfl
    refine aD (bN (Q := fun o A' Z => o = .normal ∧ A'.inr = false ∧ Same Y Z ∧ aC 0 A'.F = nv ∧ aC 2 A'.F = .int .i64 (n : Int) ∧ aC 3 A'.F = cv ∧ aC 10 A'.F = .ptr S.nx 0 ∧ aC 11 A'.F = .int .i64 ((mP c (nodeAt g i) : Nat) : Int)) ?_ ?_)
    ·have hld2 := fP h2
     rw [hm] at hld2
     by_cases hlt : m < c.length
     rotate_left
     ·have e : mP c (nodeAt g i) = 0 := by unfold mP; rw [hm, if_neg (by omega)]
      rw [e]
      refine aD (gE ?_)
      simp only [↓sU,sD,rE,↓reduceIte,rA, aA, aO, aB, hld2, hcY.len, Aj, dO, Aa (show ¬ (m : Int) < ((c.length : Nat) : Int) by omega), iB, iD, fA, aL]
      refine aT (by simp only [↓sU,sD,rE,↓reduceIte,rA]) (aN ?_)
      exact ⟨rfl, rfl, Same.nx Y _, by simp only [↓sU,sD,rE,↓reduceIte,rA], by simp only [↓sU,sD,rE,↓reduceIte,rA], by simp only [↓sU,sD,rE,↓reduceIte,rA], by simp only [↓sU,sD,rE,↓reduceIte,rA], by simp only [↓sU,sD,rE,↓reduceIte,rA]; try rfl⟩
     have hia := hcY.iaddr hlt
     have hla := hcY.ld hlt
     have hmn : (nodeAt g i).info.toNat = m := by omega
     have hpk : mP c (nodeAt g i) = if 0 ≤ c.getD m 0 ∧ c.getD m 0 < (((nodeAt g i).next.length : Nat) : Int) then (c.getD m 0).toNat else 0 := by
      unfold mP
      rw [hmn]
      by_cases hc0 : 0 ≤ c.getD m 0 ∧ c.getD m 0 < (((nodeAt g i).next.length : Nat) : Int)
      ·rw [if_pos hc0, if_pos ⟨by omega, hc0.1, hc0.2⟩]
      ·rw [if_neg hc0, if_neg (fun e => hc0 ⟨e.2.1, e.2.2⟩)]
     rw [hpk]
     generalize c.getD m 0 = z at *
     by_cases hz0 : 0 ≤ z
     rotate_left
     ·rw [if_neg (by omega)]
      refine aD (gE ?_)
      simp only [↓sU,sD,rE,↓reduceIte,rA, aA, aO, aB, hld2, hcY.len, Aj, dO, Ad (show (m : Int) < ((c.length : Nat) : Int) by omega), aG, hia, hla, Aa (show ¬ z ≥ 0 by omega), iB, iD, fA, aF, aL]
      refine aT (by simp only [↓sU,sD,rE,↓reduceIte,rA]) (aN ?_)
      exact ⟨rfl, rfl, Same.nx Y _, by simp only [↓sU,sD,rE,↓reduceIte,rA], by simp only [↓sU,sD,rE,↓reduceIte,rA], by simp only [↓sU,sD,rE,↓reduceIte,rA], by simp only [↓sU,sD,rE,↓reduceIte,rA], by simp only [↓sU,sD,rE,↓reduceIte,rA]; try rfl⟩
     by_cases hz1 : z < (((nodeAt g i).next.length : Nat) : Int)
     rotate_left
     ·rw [if_neg (by omega)]
      refine aD (gE ?_)
      simp only [↓sU,sD,rE,↓reduceIte,rA, aA, aO, aB, hld2, eV h2, bO.self hxaY, hcY.len, hxaY.len, Aj, dO, Ad (show (m : Int) < ((c.length : Nat) : Int) by omega), aG, hia, hla, Ad (show z ≥ 0 by omega), Aa hz1, iB, iD, fA, aF, aL]
      refine aT (by simp only [↓sU,sD,rE,↓reduceIte,rA]) (aN ?_)
      exact ⟨rfl, rfl, Same.nx Y _, by simp only [↓sU,sD,rE,↓reduceIte,rA], by simp only [↓sU,sD,rE,↓reduceIte,rA], by simp only [↓sU,sD,rE,↓reduceIte,rA], by simp only [↓sU,sD,rE,↓reduceIte,rA], by simp only [↓sU,sD,rE,↓reduceIte,rA]; try rfl⟩
     rw [if_pos ⟨hz0, hz1⟩, Dg hz0]
     refine aD (gE ?_)
     simp only [↓sU,sD,rE,↓reduceIte,rA, aA, aO, aB, hld2, eV h2, bO.self hxaY, hcY.len, hxaY.len, Aj, dO, Ad (show (m : Int) < ((c.length : Nat) : Int) by omega), aG, hia, hla, Ad (show z ≥ 0 by omega), Ad hz1, iB, iD, fA, aF, aL]
     refine aY (by simp only [↓sU,sD,rE,↓reduceIte,rA]) ?_
     refine aP ?_
     simp only [↓sU,sD,rE,↓reduceIte,rA, aA, aB, hld2, aG, hia, hla]
     exact Same.nx Y _
    rintro o ⟨F, inr⟩ Z ⟨rfl, q0, sZ, p0, p2, p3, p10, p11⟩
    simp only at q0 p0 p2 p3 p10 p11
    subst q0
    have hpl : mP c (nodeAt g i) < (nodeAt g i).next.length := by
     unfold mP
     split
     ·omega
     ·omega
    have h2Z := (sZ.2 _ lxY).trans h2
    have hia := (hxaY.same sZ).iaddr hpl
    have hla := (hxaY.same sZ).ld hpl
    have hch := ih _ hpl Z (sY.trans sZ)
    obtain ⟨b1, b2⟩ := G.good.kids i hi _ hpl
    have hsz := aIi h.walk h.len G.good hi hpl
    have hv : ∀ q, nE g c q (f + 1) i = nE g c q f ((nodeAt g i).next.getD (mP c (nodeAt g i)) 0).toNat := fun q => by
     simp only [nE]
     rw [if_neg hk3, if_pos hk2]
    try simp only [↓sU,sD,rE,↓reduceIte,rA]
    refine cF ?_
    simp only [↓sU,sD,rE,↓reduceIte,rA, p0, p2, p3, p10, p11, aA, aB, eV h2Z, aG, hia, hla]
    refine bJ ?_
    simp only [↓sU,sD,rE,↓reduceIte,rA]
    refine aW hch ?_
    rintro _ V ⟨sV, v, P, d, rfl, hP, hfr, hlow, hle, hb⟩
    simp only [↓sU,sD,rE,↓reduceIte,rA, vE, vD]
    refine bD ?_
    refine .inr ⟨rfl, v, .int .i64 (d : Int), by simp only [↓sU,sD,rE,↓reduceIte,rA], by simp only [↓sU,sD,rE,↓reduceIte,rA], (sY.trans sZ).trans sV, v, P, d, rfl, hP, fun b hb => Al (sY.trans sZ).1 (hfr b hb), ?_, Al hle (Nat.pow_le_pow_right (by decide) (by omega)), hb⟩
    exact ⟨hlow.len, hlow.pos, fun q hq => by rw [hlow.eq q hq, hv q], hlow.low⟩
  rintro o ⟨F, inr⟩ Z (⟨rfl, q0, rfl, hk1, p0, p2, p3, p10⟩ | ⟨rfl, r0, r1, e8, e9, hR⟩)
  rotate_left
  ·simp only at e8 e9
   simp only [↓sU,sD,rE,↓reduceIte,rA, e8, e9]
   exact hR
  simp only at q0 p0 p2 p3 p10
  subst q0
  have hC := h.chn hi hk1
  try simp only [↓sU,sD,rE,↓reduceIte,rA]
  refine cF ?_
  simp only [↓aH,aJ,rE,↓reduceIte, rA, p2]
  refine iO (qR (n := n) (by simp only [↓aH,aJ,rE,↓reduceIte, rA, aG]) (by simp only [↓aH,aJ,rE,↓reduceIte, rA, aG]) (by unfold room; omega) (by unfold room; omega)) ?_
  intro Y1 y1 m1 c1
  rw [tB] at c1
  simp only [↓aH,aJ,rE,↓reduceIte, rA]
  have sY1 := sY.trans y1
  have h21 := (y1.2 _ lxY).trans h2
  refine cF ?_
  simp only [↓sU,sD,rE,↓reduceIte,rA]
  have hlY := sY.1
  refine aD (bN (aJR (S := S) (c := c) (f := f) (x0 := nv) (x3 := cv) (n := n) H G h.walk h.len hi hk1 n30 hC.wts hC.n2 (by omega) hxa hxw sY1 c1 (by omega) hlY h21 (by omega) (Af _) (by omega) ih ⟨by simp only [↓sU,sD,rE,↓reduceIte,rA, p0], by simp only [↓sU,sD,rE,↓reduceIte,rA, p2], by simp only [↓sU,sD,rE,↓reduceIte,rA, p3], by simp only [↓sU,sD,rE,↓reduceIte,rA], by simp only [↓sU,sD,rE,↓reduceIte,rA]; try rfl, by simp only [↓sU,sD,rE,↓reduceIte,rA, p10], by simp only [↓sU,sD,rE,↓reduceIte,rA]; try rfl⟩) ?_)
  clear p0 p2 p3 p10 m1 c1 y1 sY1 h21
  rintro o ⟨F, inr⟩ X ⟨rfl, q0, sX, rl, xl, hx, j, P, d, s, hj, hA, hs1, hs2, hr, ⟨p0, p2, p3, p8, p9, p10, p12, p13⟩⟩
  simp only at q0 p0 p2 p3 p8 p9 p10 p12 p13
  subst q0
  obtain rfl : j = (nodeAt g i).next.length := by omega
  have c1 := hC.n1
  have c2 := hC.n2
  obtain ⟨z1, z2, z3, z4⟩ := aKd G.good h.walk h.len hi hk1 hA (by omega) hs2
  have hsz := aDt h.walk h.len hi
  have hd29 := Al hA.le (aJk (n := vQ T g i (nodeAt g i).next.length) (by have := aDa G.good h.walk h.len hi; omega))
  have hD29 := Al z2 (aJk (n := eG T i - 1) (by omega))
  obtain ⟨st, rfl⟩ : ∃ st : Nat, s = (st : Int) := ⟨s.toNat, by omega⟩
  rw [Ba] at z1 z2 z3 z4 hD29
  have w2 : IntKind.i64.wrap (((d : Nat) : Int) * ((st : Nat) : Int)) = ((d * st : Nat) : Int) := by
   rw [← Eg]
   exact wrap_i64 (by omega) (by omega)
  have hbP : ∀ q, q < n → (P.getD q 0).natAbs ≤ 1000000000000000000 := fun q hq => by
   have b := hA.bd q hq
   have m := aJd (a := st) (D := d) (by omega) hd29
   rw [Ba] at b
   omega
  have hPl := hA.len
  try simp only [↓sU,sD,rE,↓reduceIte,rA]
  refine cF ?_
  simp only [↓sU,sD,rE,↓reduceIte,rA, p9, p12, w2]
  refine cF ?_
  simp only [↓sU,sD,rE,↓reduceIte,rA]
  refine aD (bN (aKS (x0 := nv) (x3 := cv) (n := n) (rb := Z.nx) (xb := S.nx) (d := d * st) (s := ((st : Nat) : Int)) (i := (((nodeAt g i).next.length : Nat) : Int)) (P := P) H z3 (by omega) (by omega) hr rl hPl hbP (by refine ⟨?_,?_,?_,?_,?_,?_,?_,?_⟩<;>simp only [↓sU,sD,rE,↓reduceIte,rA,p0,p2,p3,p8,p10,p12,p13]) (by simp only [↓sU,sD,rE,↓reduceIte,rA])) ?_)
  clear p0 p2 p3 p8 p9 p10 p12 p13
  rintro o ⟨F, inr⟩ X2 ⟨rfl, q0, x2, q, hqn, ⟨p0, p2, p3, p8, p9, p10, p12, p13⟩, p18, _⟩
  simp only at q0 p0 p2 p3 p8 p9 p10 p12 p13 p18
  subst q0
  obtain rfl : n = q := by omega
  rw [← hPl, List.take_length] at p18
  have hgp : 0 < fT (d * st) P := aDS z3
  have hgd := aGd (l := P) z3
  have hr2 := (x2.2 _ rl).trans hr
  try simp only [↓sU,sD,rE,↓reduceIte,rA]
  refine aD (bN (aLF (n := n) (rb := Z.nx) (d := d * st) (t := fT (d * st) P) (P := P) hgp (by omega) hr2 hPl hbP (by refine ⟨?_,?_,?_,?_⟩<;>simp only [↓sU,sD,rE,↓reduceIte,rA,p2,p8,p9,p18])) ?_)
  clear p0 p2 p3 p8 p9 p10 p12 p13 p18
  rintro o ⟨F, inr⟩ X3 ⟨rfl, q0, x3, q, P', hqn, hPl', hPq, _, hr3, ⟨p2, p8, p9, p18⟩, _⟩
  simp only at q0 p2 p8 p9 p18
  subst q0
  obtain rfl : n = q := by omega
  have eP : P' = P.map fun x : Int => x.tdiv ((fT (d * st) P : Nat) : Int) := tG (by rw [Av, hPl', hPl]) fun q hq => by
   rw [hPq q (by omega)]
   have hq2 : q < P.length := by omega
   show (P.getD q 0).tdiv ((fT (d * st) P : Nat) : Int) = _
   rw [Ac, Ac, Bc, Ab hq2]
   rfl
  subst eP
  have e2 : lE .quo (.p .int) (.int .i64 ((d * st : Nat) : Int)) (.int .i64 ((fT (d * st) P : Nat) : Int)) = some (.int .i64 ((d * st / fT (d * st) P : Nat) : Int)) := pU (.p .int) (by omega) (by omega) (by omega)
  have sX3 : Same S X3 := cU.same (sX.trans x2) x3 hlY
  have rl3 : Z.nx < X3.nx := Ae rl (Al x2.1 x3.1)
  try simp only [↓sU,sD,rE,↓reduceIte,rA]
  refine aD (gE ?_)
  simp only [↓sU,sD,rE,↓reduceIte,rA, p8, p9, p18, e2]
  refine bD ?_
  simp only [↓sU,sD,rE,↓reduceIte,rA]
  exact ⟨sX3.trans (Same.nx X3 _), _, _, _, rfl, uI (S := ⟨X3.h, _⟩) hr3 (by simp only; omega) (by rw [Av]; exact hPl), fun b hb => by cases hb; exact hlY, z1, Al (Nat.div_le_self _ _) z2, z4⟩
theorem vB {S : St} {v : AV} {L : List (List Int)} {i : Nat} (h : aM 1 SlE S v L) (hi : i < L.length) : ∃ b q a, eT (.slice 1) v i = some (.ptr b q) ∧ bO .i64 S a (L.getD i []) ∧ ∀ X, Same S X → fH (.ptr b q) false 1 X.h = some a := by
 obtain ⟨_, b, q, h1, h2, _, ⟨a, rfl, h3⟩, _, h4⟩ := aM.at h (by decide) (aAU hi)
 have h5 := h4 0 a rfl
 rw [Bj] at h5
 exact ⟨b, q, a, h1, h3, fun X hX => by rw [qY hX h2]; exact h5⟩
theorem mF {S : St} {v : AV} {g : bF} {i : Nat} (h : aM 2 dB S v g.infos) (hi : i < g.infos.length) : ∃ b q, eT (.slice 2) v i = some (.ptr b q) ∧ ∀ X, Same S X → fH (.ptr b (q + 1)) false 1 X.h = some (.int .i64 (infoAt g (i : Int)).actions) := by
 obtain ⟨e, b, q, h1, h2, _, he, _, h4⟩ := aM.at h (by decide) (Ab hi)
 have he : e = [.int .i64 g.infos[i].player, .int .i64 g.infos[i].actions] := he
 subst he
 have h5 := h4 1 _ rfl
 have ei : infoAt g (i : Int) = g.infos[i] := by
  unfold infoAt
  rw [Ba, Ac, Ab hi]
  rfl
 rw [ei]
 exact ⟨b, q, h1, fun X hX => by rw [qY hX h2]; exact h5⟩
structure aFd where
 av : AV
 bv : AV
 cv : AV
 xav : AV
 xbv : AV
 xcv : AV
 chv : AV
 nv : AV
 iv : AV
 gb : Nat
 rb : Nat
 n : Nat
def aGW (z : aFd) (F : Fr) : Prop := aC 13 F = .ptr z.gb 0 ∧ aC 20 F = z.av ∧ aC 22 F = z.bv ∧ aC 24 F = z.cv ∧ aC 26 F = z.xav ∧ aC 28 F = z.xbv ∧ aC 30 F = z.xcv ∧ aC 32 F = .int .i64 (z.n : Int) ∧ aC 33 F = z.chv ∧ aC 34 F = .sl z.rb 0 z.n z.n false
structure aF5 (S : St) (z : aFd) (g : bF) (Ia Ib Ic C : List Int) (Xa Xb Xc : List (List Int)) : Prop where
 gl : z.gb < S.nx
 gg : S.h.get z.gb = some (.cells [.int .i64 g.players, z.nv, z.iv] false 0)
 a : bO .i64 S z.av Ia
 b : bO .i64 S z.bv Ib
 c : bO .i64 S z.cv Ic
 xa : aM 1 SlE S z.xav Xa
 xb : aM 1 SlE S z.xbv Xb
 xc : aM 1 SlE S z.xcv Xc
 ch : bO .i64 S z.chv C
 iv : aM 2 dB S z.iv g.infos
structure aJY (n : Nat) (g : bF) (Ia Ib Ic C : List Int) (Xa Xb Xc : List (List Int)) : Prop where
 n200 : n ≤ 200
 la : Ia.length = n
 lb : Ib.length = n
 lc : Ic.length = n
 lxa : Xa.length = n
 lxb : Xb.length = n
 lxc : Xc.length = n
 lch : C.length = n
 li : g.infos.length = n
 ra : ∀ i, i < n → 0 ≤ Ia.getD i 0 ∧ Ia.getD i 0 < n
 rb : ∀ i, i < n → 0 ≤ Ib.getD i 0 ∧ Ib.getD i 0 < n
 ka : ∀ i, i < n → (((Xa.getD i []).length : Nat) : Int) = (infoAt g (i : Int)).actions
 kb : ∀ i, i < n → (((Xb.getD i []).length : Nat) : Int) = (infoAt g (i : Int)).actions
 kc : ∀ i, i < n → (((Xc.getD i []).length : Nat) : Int) = (infoAt g (i : Int)).actions
 k9 : ∀ i, i < n → (infoAt g (i : Int)).actions ≤ 1000
 both : ∀ i, i < n → Ic.getD i 0 = Ib.getD (Ia.getD i 0).toNat 0
 act : ∀ i k, i < n → k < (Xa.getD i []).length → 0 ≤ (Xa.getD i []).getD k 0 ∧ (Xa.getD i []).getD k 0 < (((Xb.getD (Ia.getD i 0).toNat []).length : Nat) : Int) ∧ (Xc.getD i []).getD k 0 = (Xb.getD (Ia.getD i 0).toNat []).getD ((Xa.getD i []).getD k 0).toNat 0
 ch : ∀ i, i < n → 0 ≤ C.getD i 0 ∧ C.getD i 0 < (((Xa.getD i []).length : Nat) : Int)
 inj : ∀ i j, i < n → j < n → Ia.getD i 0 = Ia.getD j 0 → i = j
def aNx (S : St) (z : aFd) (k : Nat) (A : bT) (X : St) : Prop := A.inr = false ∧ Same S X ∧ ∃ i : Nat, i + k = z.n ∧ aGW z A.F ∧ aC 35 A.F = .int .i64 (i : Int)
section
variable {S Y : St} {z : aFd} {g : bF} {Ia Ib Ic C : List Int} {Xa Xb Xc : List (List Int)} {F0 : Fr}
theorem aJ4 (hL : aF5 S z g Ia Ib Ic C Xa Xb Xc) (hP : aJY z.n g Ia Ib Ic C Xa Xb Xc) (hZ : aGW z F0) (hY : Same S Y) :
  kH fns (.seq (.reg [oq 35 (.mv (ci 0))])
(.block 0 (.loop (.seq (.seq (.reg [mt 194 35,
mt 195 32,
oq 196 (bi .lss (.t 194) (.t 195))])
(.cond (.t 196) .skip (.exit 0)))
(.seq (.block 1 (.seq (.drw [mt 199 20,
mt 200 35,
om 201 3 (.iaddr (.slice 1) (.t 199) (.t 200)),
om 202 7 (ld 201),
om 203 15 (bi .lss (.t 202) (ci 0)),
om 204 31 (.mv (.t 203)),
og 205 204 false 63 (.mv (.t 20)),
og 206 204 false 63 (.mv (.t 35)),
og 207 204 false 255 (.iaddr (.slice 1) (.t 205) (.t 206)),
og 208 204 false 511 (ld 207),
og 209 204 false 63 (.mv (.t 32)),
og 210 204 false 2047 (bi .geq (.t 208) (.t 209)),
om 211 4095 (.pick (.t 204) (.c (.bool true)) (.t 210)),
om 212 8191 (.mv (.t 211)),
og 213 212 false 16383 (.mv (.t 22)),
og 214 212 false 16383 (.mv (.t 35)),
og 215 212 false 65535 (.iaddr (.slice 1) (.t 213) (.t 214)),
og 216 212 false 131071 (ld 215),
og 217 212 false 262143 (bi .lss (.t 216) (ci 0)),
om 218 524287 (.pick (.t 212) (.c (.bool true)) (.t 217)),
om 219 1048575 (.mv (.t 218)),
og 220 219 false 2097151 (.mv (.t 22)),
og 221 219 false 2097151 (.mv (.t 35)),
og 222 219 false 8388607 (.iaddr (.slice 1) (.t 220) (.t 221)),
og 223 219 false 16777215 (ld 222),
og 224 219 false 2097151 (.mv (.t 32)),
og 225 219 false 67108863 (bi .geq (.t 223) (.t 224)),
om 226 134217727 (.pick (.t 219) (.c (.bool true)) (.t 225)),
om 227 268435455 (.mv (.t 226)),
og 228 227 false 536870911 (.mv (.t 26)),
og 229 227 false 536870911 (.mv (.t 35)),
og 230 227 false 2147483647 (.iaddr (.slice 1) (.t 228) (.t 229)),
og 231 227 false 4294967295 (ld 230),
og 232 227 false 8589934591 (.lenSl (.t 231)),
og 233 227 false 536870911 (.faddr 2 (.t 13)),
og 234 227 false 17716740095 (ld 233),
og 235 227 false 536870911 (.mv (.t 35)),
og 236 227 false 120795955199 (.iaddr (.slice 2) (.t 234) (.t 235)),
og 237 227 false 258234908671 (.faddr 1 (.t 236)),
og 238 227 false 533112815615 (ld 237),
og 239 227 false 1099511627775 (bi .neq (.t 232) (.t 238)),
om 240 2199023255551 (.pick (.t 227) (.c (.bool true)) (.t 239)),
om 241 4398046511103 (.mv (.t 240)),
og 242 241 false 8796093022207 (.mv (.t 28)),
og 243 241 false 8796093022207 (.mv (.t 35)),
og 244 241 false 35184372088831 (.iaddr (.slice 1) (.t 242) (.t 243)),
og 245 241 false 70368744177663 (ld 244),
og 246 241 false 140737488355327 (.lenSl (.t 245)),
og 247 241 false 8796093022207 (.faddr 2 (.t 13)),
og 248 241 false 290271069732863 (ld 247),
og 249 241 false 8796093022207 (.mv (.t 35)),
og 250 241 false 1979120929996799 (.iaddr (.slice 2) (.t 248) (.t 249)),
og 251 241 false 4230920743682047 (.faddr 1 (.t 250)),
og 252 241 false 8734520371052543 (ld 251),
og 253 241 false 18014398509481983 (bi .neq (.t 246) (.t 252)),
om 254 36028797018963967 (.pick (.t 241) (.c (.bool true)) (.t 253)),
om 255 72057594037927935 (.mv (.t 254)),
og 256 255 false 144115188075855871 (.mv (.t 30)),
og 257 255 false 144115188075855871 (.mv (.t 35)),
og 258 255 false 576460752303423487 (.iaddr (.slice 1) (.t 256) (.t 257)),
og 259 255 false 1152921504606846975 (ld 258),
og 260 255 false 2305843009213693951 (.lenSl (.t 259)),
og 261 255 false 144115188075855871 (.faddr 2 (.t 13)),
og 262 255 false 4755801206503243775 (ld 261),
og 263 255 false 144115188075855871 (.mv (.t 35)),
og 264 255 false 32425917317067571199 (.iaddr (.slice 2) (.t 262) (.t 263)),
og 265 255 false 69319405464486674431 (.faddr 1 (.t 264)),
og 266 255 false 143106381759324880895 (ld 265),
og 267 255 false 295147905179352825855 (bi .neq (.t 260) (.t 266)),
om 268 590295810358705651711 (.pick (.t 255) (.c (.bool true)) (.t 267))])
(.cond (.t 268) (.seq (.reg [oq 12 (.mv (.c (.bool false)))])
.ret) .skip)))
(.reg [mt 197 35,
oq 198 (bi .add (.t 197) (ci 1)),
mt 35 198])))))) ⟨F0, false⟩ Y fun o A' X => o = .normal ∧ aNx S z 0 A' X := by
 obtain ⟨p13, p20, p22, p24, p26, p28, p30, p32, p33, p34⟩ := hZ
 refine cF ?_
 simp only [↓sU,sD,rE,↓reduceIte,rA]
 refine aU (cI (aNx S z) ?_ z.n _ _ ⟨rfl, hY, 0, by omega, (by refine ⟨?_,?_,?_,?_,?_,?_,?_,?_,?_,?_⟩<;>simp only [↓sU,sD,rE,↓reduceIte,rA,p13,p20,p22,p24,p26,p28,p30,p32,p33,p34]), by simp only [↓sU,sD,rE,↓reduceIte,rA]; try rfl⟩)
 clear p13 p20 p22 p24 p26 p28 p30 p32 p33 p34
 rintro k ⟨F, inr⟩ X ⟨q0, hX, i, hik, ⟨p13, p20, p22, p24, p26, p28, p30, p32, p33, p34⟩, p35⟩
 simp only at q0 p13 p20 p22 p24 p26 p28 p30 p32 p33 p34 p35
 subst q0
 refine jH ?_
 simp only [↓sU,sD,rE,↓reduceIte,rA, p32, p35]
 by_cases hlt : i < z.n
 rotate_left
 ·refine aT (by simp only [↓sU,sD,rE,↓reduceIte,rA, Aa (show ¬ (i : Int) < (z.n : Int) by omega)]) (cC ?_)
  simp only [↓sU,sD,rE,↓reduceIte,rA]
  obtain rfl : k = 0 := by omega
  exact ⟨rfl, hX, i, hik, (by refine ⟨?_,?_,?_,?_,?_,?_,?_,?_,?_,?_⟩<;>simp only [↓sU,sD,rE,↓reduceIte,rA,p13,p20,p22,p24,p26,p28,p30,p32,p33,p34]), by simp only [↓sU,sD,rE,↓reduceIte,rA, p35]⟩
 refine aY (by simp only [↓sU,sD,rE,↓reduceIte,rA, Ad (show (i : Int) < (z.n : Int) by omega)]) (aN ?_)
 try simp only [↓sU,sD,rE,↓reduceIte,rA]
 have n200 := hP.n200
 have w1 : IntKind.i64.wrap ((i : Int) + 1) = ((i + 1 : Nat) : Int) := by rw [wrap_i64 (by omega) (by omega)]; omega
 have aX := hL.a.same hX
 have bX := hL.b.same hX
 have ia := aX.iaddr (show i < Ia.length by have := hP.la; omega)
 have la := aX.ld (show i < Ia.length by have := hP.la; omega)
 have ib := bX.iaddr (show i < Ib.length by have := hP.lb; omega)
 have lb := bX.ld (show i < Ib.length by have := hP.lb; omega)
 obtain ⟨ra1, ra2⟩ := hP.ra i hlt
 obtain ⟨rb1, rb2⟩ := hP.rb i hlt
 obtain ⟨xb1, xq1, a1, xi1, xs1, xl1⟩ := vB (i := i) hL.xa (by have := hP.lxa; omega)
 obtain ⟨xb2, xq2, a2, xi2, xs2, xl2⟩ := vB (i := i) hL.xb (by have := hP.lxb; omega)
 obtain ⟨xb3, xq3, a3, xi3, xs3, xl3⟩ := vB (i := i) hL.xc (by have := hP.lxc; omega)
 obtain ⟨ob, oq, oi, ol⟩ := mF (i := i) hL.iv (by have := hP.li; omega)
 have xl1 := xl1 X hX
 have xl2 := xl2 X hX
 have xl3 := xl3 X hX
 have ol := ol X hX
 have n1 := (xs1.same hX).len
 have n2 := (xs2.same hX).len
 have n3 := (xs3.same hX).len
 have ka := hP.ka i hlt
 have kb := hP.kb i hlt
 have kc := hP.kc i hlt
 have s1 := bO.self xs1
 have s2 := bO.self xs2
 have s3 := bO.self xs3
 have si := aM.self hL.iv
 have gX := (hX.2 _ hL.gl).trans hL.gg
 generalize (infoAt g (i : Int)).actions = m at *
 generalize Ia.getD i 0 = x at *
 generalize Ib.getD i 0 = y at *
 have d1 : decide (m ≠ m) = false := Aa (fun h => h rfl)
 refine aD (aU (aD (gE ?_)))
 simp only [↓sU,sD,rE,↓reduceIte,rA, p13, p20, p22, p26, p28, p30, p32, p35, aG, ia, la, ib, lb, dO, Aa (show ¬ x < 0 by omega), Aa (show ¬ x ≥ (z.n : Int) by omega), Aa (show ¬ y < 0 by omega), Aa (show ¬ y ≥ (z.n : Int) by omega), xi1, xl1, s1, n1, xi2, xl2, s2, n2, xi3, xl3, s3, n3, Aj, aA, aO, aB, oC gX, si, oi, ol, ka, kb, kc, d1, iB, iD, fA, aF, aL]
 refine aT (by simp only [↓sU,sD,rE,↓reduceIte,rA]) (aN ?_)
 try simp only [↓sU,sD,rE,↓reduceIte,rA]
 refine aP ?_
 simp only [↓sU,sD,rE,↓reduceIte,rA, p35, w1]
 exact ⟨k - 1, by omega, rfl, hX.trans (Same.nx X _), i + 1, by omega, (by refine ⟨?_,?_,?_,?_,?_,?_,?_,?_,?_,?_⟩<;>simp only [↓sU,sD,rE,↓reduceIte,rA,p13,p20,p22,p24,p26,p28,p30,p32,p33,p34]), by simp only [↓sU,sD,rE,↓reduceIte,rA]⟩
def aML (Y : St) (z : aFd) (i len : Nat) (k : Nat) (A : bT) (X : St) : Prop := A.inr = false ∧ Same Y X ∧ ∃ q : Nat, q + k = len ∧ aGW z A.F ∧ aC 36 A.F = .int .i64 (i : Int) ∧ aC 37 A.F = .int .i64 (q : Int)
theorem aJW {i : Nat} (hL : aF5 S z g Ia Ib Ic C Xa Xb Xc) (hP : aJY z.n g Ia Ib Ic C Xa Xb Xc) (hZ : aGW z F0) (p36 : aC 36 F0 = .int .i64 (i : Int)) (hi : i < z.n) (hY : Same S Y) :
  kH fns (.seq (.reg [oq 37 (.mv (ci 0))])
(.block 4 (.loop (.seq (.seq (.reg [mt 286 37,
mt 287 26,
mt 288 36,
oq 289 (.iaddr (.slice 1) (.t 287) (.t 288)),
oq 290 (ld 289),
oq 291 (.lenSl (.t 290)),
oq 292 (bi .lss (.t 286) (.t 291))])
(.cond (.t 292) .skip (.exit 4)))
(.seq (.block 5 (.seq (.drw [mt 295 26,
mt 296 36,
om 297 3 (.iaddr (.slice 1) (.t 295) (.t 296)),
om 298 7 (ld 297),
mt 299 37,
om 300 31 (.iaddr (.slice 1) (.t 298) (.t 299)),
om 301 63 (ld 300),
om 302 127 (bi .lss (.t 301) (ci 0)),
om 303 255 (.mv (.t 302)),
og 304 303 false 511 (.mv (.t 26)),
og 305 303 false 511 (.mv (.t 36)),
og 306 303 false 2047 (.iaddr (.slice 1) (.t 304) (.t 305)),
og 307 303 false 4095 (ld 306),
og 308 303 false 511 (.mv (.t 37)),
og 309 303 false 16383 (.iaddr (.slice 1) (.t 307) (.t 308)),
og 310 303 false 32767 (ld 309),
og 311 303 false 511 (.mv (.t 28)),
og 312 303 false 511 (.mv (.t 20)),
og 313 303 false 511 (.mv (.t 36)),
og 314 303 false 393727 (.iaddr (.slice 1) (.t 312) (.t 313)),
og 315 303 false 918015 (ld 314),
og 316 303 false 2032127 (.iaddr (.slice 1) (.t 311) (.t 315)),
og 317 303 false 4129279 (ld 316),
og 318 303 false 8323583 (.lenSl (.t 317)),
og 319 303 false 16777215 (bi .geq (.t 310) (.t 318)),
om 320 33554431 (.pick (.t 303) (.c (.bool true)) (.t 319)),
om 321 67108863 (.mv (.t 320)),
og 322 321 false 134217727 (.mv (.t 30)),
og 323 321 false 134217727 (.mv (.t 36)),
og 324 321 false 536870911 (.iaddr (.slice 1) (.t 322) (.t 323)),
og 325 321 false 1073741823 (ld 324),
og 326 321 false 134217727 (.mv (.t 37)),
og 327 321 false 4294967295 (.iaddr (.slice 1) (.t 325) (.t 326)),
og 328 321 false 8589934591 (ld 327),
og 329 321 false 134217727 (.mv (.t 28)),
og 330 321 false 134217727 (.mv (.t 20)),
og 331 321 false 134217727 (.mv (.t 36)),
og 332 321 false 103213432831 (.iaddr (.slice 1) (.t 330) (.t 331)),
og 333 321 false 240652386303 (ld 332),
og 334 321 false 532710162431 (.iaddr (.slice 1) (.t 329) (.t 333)),
og 335 321 false 1082465976319 (ld 334),
og 336 321 false 134217727 (.mv (.t 26)),
og 337 321 false 134217727 (.mv (.t 36)),
og 338 321 false 6597203984383 (.iaddr (.slice 1) (.t 336) (.t 337)),
og 339 321 false 15393297006591 (ld 338),
og 340 321 false 134217727 (.mv (.t 37)),
og 341 321 false 68169855139839 (.iaddr (.slice 1) (.t 339) (.t 340)),
og 342 321 false 138538599317503 (ld 341),
og 343 321 false 281457931059199 (.iaddr (.slice 1) (.t 335) (.t 342)),
og 344 321 false 562932907769855 (ld 343),
og 345 321 false 1125899906842623 (bi .neq (.t 328) (.t 344)),
om 346 2251799813685247 (.pick (.t 321) (.c (.bool true)) (.t 345))])
(.cond (.t 346) (.seq (.reg [oq 12 (.mv (.c (.bool false)))])
.ret) .skip)))
(.reg [mt 293 37,
oq 294 (bi .add (.t 293) (ci 1)),
mt 37 294])))))) ⟨F0, false⟩ Y fun o A' X => o = .normal ∧ aML Y z i (Xa.getD i []).length 0 A' X := by
 obtain ⟨p13, p20, p22, p24, p26, p28, p30, p32, p33, p34⟩ := hZ
 refine cF ?_
 simp only [↓sU,sD,rE,↓reduceIte,rA]
 refine aU (cI (aML Y z i (Xa.getD i []).length) ?_ (Xa.getD i []).length _ _ ⟨rfl, Same.refl _, 0, by omega, (by refine ⟨?_,?_,?_,?_,?_,?_,?_,?_,?_,?_⟩<;>simp only [↓sU,sD,rE,↓reduceIte,rA,p13,p20,p22,p24,p26,p28,p30,p32,p33,p34]), by simp only [↓sU,sD,rE,↓reduceIte,rA, p36], by simp only [↓sU,sD,rE,↓reduceIte,rA]; try rfl⟩)
 clear p13 p20 p22 p24 p26 p28 p30 p32 p33 p34 p36
 rintro k ⟨F, inr⟩ X ⟨q0, hYX, q, hqk, ⟨p13, p20, p22, p24, p26, p28, p30, p32, p33, p34⟩, p36, p37⟩
 simp only at q0 p13 p20 p22 p24 p26 p28 p30 p32 p33 p34 p36 p37
 subst q0
 have hX := hY.trans hYX
 have n200 := hP.n200
 obtain ⟨xb1, xq1, a1, xi1, xs1, xl1⟩ := vB (i := i) hL.xa (by have := hP.lxa; omega)
 have xl1 := xl1 X hX
 have n1 := (xs1.same hX).len
 have s1 := bO.self xs1
 refine jH ?_
 simp only [↓sU,sD,rE,↓reduceIte,rA, p26, p36, p37, aG, xi1, xl1, n1, Aj]
 by_cases hlt : q < (Xa.getD i []).length
 rotate_left
 ·refine aT (by simp only [↓sU,sD,rE,↓reduceIte,rA, Aa (show ¬ (q : Int) < (((Xa.getD i []).length : Nat) : Int) by omega)]) (cC ?_)
  simp only [↓sU,sD,rE,↓reduceIte,rA]
  obtain rfl : k = 0 := by omega
  exact ⟨rfl, hYX, q, hqk, (by refine ⟨?_,?_,?_,?_,?_,?_,?_,?_,?_,?_⟩<;>simp only [↓sU,sD,rE,↓reduceIte,rA,p13,p20,p22,p24,p26,p28,p30,p32,p33,p34]), by refine ⟨?_,?_⟩<;>simp only [↓sU,sD,rE,↓reduceIte,rA,p36,p37]⟩
 refine aY (by simp only [↓sU,sD,rE,↓reduceIte,rA, Ad (show (q : Int) < (((Xa.getD i []).length : Nat) : Int) by omega)]) (aN ?_)
 try simp only [↓sU,sD,rE,↓reduceIte,rA]
 have ka := hP.ka i hi
 have k9 := hP.k9 i hi
 have w1 : IntKind.i64.wrap ((q : Int) + 1) = ((q + 1 : Nat) : Int) := by rw [wrap_i64 (by omega) (by omega)]; omega
 have aX := hL.a.same hX
 have ia := aX.iaddr (show i < Ia.length by have := hP.la; omega)
 have la := aX.ld (show i < Ia.length by have := hP.la; omega)
 obtain ⟨ra1, ra2⟩ := hP.ra i hi
 obtain ⟨c1, c2, c3⟩ := hP.act i q hi hlt
 have kc := hP.kc i hi
 have i1 := (xs1.same hX).iaddr hlt
 have l1 := (xs1.same hX).ld hlt
 obtain ⟨j, hj⟩ : ∃ j : Nat, Ia.getD i 0 = (j : Int) := ⟨(Ia.getD i 0).toNat, by omega⟩
 rw [hj] at la ra2 c2 c3
 rw [Ba] at c2 c3
 obtain ⟨xb2, xq2, a2, xi2, xs2, xl2⟩ := vB (i := j) hL.xb (by have := hP.lxb; omega)
 obtain ⟨xb3, xq3, a3, xi3, xs3, xl3⟩ := vB (i := i) hL.xc (by have := hP.lxc; omega)
 have xl2 := xl2 X hX
 have xl3 := xl3 X hX
 have n2 := (xs2.same hX).len
 have s2 := bO.self xs2
 have s3 := bO.self xs3
 have i3 := (xs3.same hX).iaddr (show q < (Xc.getD i []).length by omega)
 have l3 := (xs3.same hX).ld (show q < (Xc.getD i []).length by omega)
 rw [c3] at l3
 obtain ⟨t, ht⟩ : ∃ t : Nat, (Xa.getD i []).getD q 0 = (t : Int) := ⟨((Xa.getD i []).getD q 0).toNat, by omega⟩
 rw [ht] at l1 c2 l3
 rw [Ba] at l3
 have i2 := (xs2.same hX).iaddr (show t < (Xb.getD j []).length by omega)
 have l2 := (xs2.same hX).ld (show t < (Xb.getD j []).length by omega)
 generalize (Xb.getD j []).getD t 0 = y at *
 have d1 : decide (y ≠ y) = false := Aa (fun h => h rfl)
 refine aD (aU (aD (gE ?_)))
 simp only [↓sU,sD,rE,↓reduceIte,rA, p20, p26, p28, p30, p36, p37, aG, ia, la, dO, xi1, xl1, s1, i1, l1, Aa (show ¬ (t : Int) < 0 by omega), xi2, xl2, s2, n2, Aj, Aa (show ¬ (t : Int) ≥ (((Xb.getD j []).length : Nat) : Int) by omega), i2, l2, xi3, xl3, s3, i3, l3, d1, iB, iD, fA, aF, aL]
 refine aT (by simp only [↓sU,sD,rE,↓reduceIte,rA]) (aN ?_)
 try simp only [↓sU,sD,rE,↓reduceIte,rA]
 refine aP ?_
 simp only [↓sU,sD,rE,↓reduceIte,rA, p37, w1]
 exact ⟨k - 1, by omega, rfl, hYX.trans (Same.nx X _), q + 1, by omega, (by refine ⟨?_,?_,?_,?_,?_,?_,?_,?_,?_,?_⟩<;>simp only [↓sU,sD,rE,↓reduceIte,rA,p13,p20,p22,p24,p26,p28,p30,p32,p33,p34]), by refine ⟨?_,?_⟩<;>simp only [↓sU,sD,rE,↓reduceIte,rA,p36]⟩
noncomputable def aNn : List AO := [mt 347 34,
mt 348 20,
mt 349 36,
om 350 6 (.iaddr (.slice 1) (.t 348) (.t 349)),
om 351 14 (ld 350),
mt 352 26,
mt 353 36,
om 354 96 (.iaddr (.slice 1) (.t 352) (.t 353)),
om 355 224 (ld 354),
mt 356 33,
mt 357 36,
om 358 1536 (.iaddr (.slice 1) (.t 356) (.t 357)),
om 359 3584 (ld 358),
om 360 8160 (.iaddr (.slice 1) (.t 355) (.t 359)),
om 361 16352 (ld 360),
om 362 32767 (.iaddr (.slice 1) (.t 347) (.t 351))]
def aMC (S : St) (z : aFd) (Ia C : List Int) (Xa : List (List Int)) (k : Nat) (A : bT) (X : St) : Prop := A.inr = false ∧ Same S X ∧ z.rb < X.nx ∧ ∃ (i : Nat) (l : List Int), i + k = z.n ∧ l.length = z.n ∧ (∀ s, s < i → l.getD (Ia.getD s 0).toNat 0 = (Xa.getD s []).getD (C.getD s 0).toNat 0) ∧ X.h.get z.rb = some (.cells (bB l) false 0) ∧ aGW z A.F ∧ aC 36 A.F = .int .i64 (i : Int)
theorem aJQ {l0 : List Int} (hL : aF5 S z g Ia Ib Ic C Xa Xb Xc) (hP : aJY z.n g Ia Ib Ic C Xa Xb Xc) (hZ : aGW z F0) (hY : Same S Y) (rs : S.nx ≤ z.rb) (rl : z.rb < Y.nx) (hr : Y.h.get z.rb = some (.cells (bB l0) false 0)) (hl0 : l0.length = z.n) :
  kH fns (.seq (.reg [oq 36 (.mv (ci 0))])
(.block 2 (.loop (.seq (.seq (.reg [mt 269 36,
mt 270 32,
oq 271 (bi .lss (.t 269) (.t 270))])
(.cond (.t 271) .skip (.exit 2)))
(.seq (.block 3 (.seq (.seq (.drw [mt 274 24,
mt 275 36,
om 276 3 (.iaddr (.slice 1) (.t 274) (.t 275)),
om 277 7 (ld 276),
mt 278 22,
mt 279 20,
mt 280 36,
om 281 96 (.iaddr (.slice 1) (.t 279) (.t 280)),
om 282 224 (ld 281),
om 283 496 (.iaddr (.slice 1) (.t 278) (.t 282)),
om 284 1008 (ld 283),
om 285 2047 (bi .neq (.t 277) (.t 284))])
(.cond (.t 285) (.seq (.reg [oq 12 (.mv (.c (.bool false)))])
.ret) .skip))
(.seq (.seq (.reg [oq 37 (.mv (ci 0))])
(.block 4 (.loop (.seq (.seq (.reg [mt 286 37,
mt 287 26,
mt 288 36,
oq 289 (.iaddr (.slice 1) (.t 287) (.t 288)),
oq 290 (ld 289),
oq 291 (.lenSl (.t 290)),
oq 292 (bi .lss (.t 286) (.t 291))])
(.cond (.t 292) .skip (.exit 4)))
(.seq (.block 5 (.seq (.drw [mt 295 26,
mt 296 36,
om 297 3 (.iaddr (.slice 1) (.t 295) (.t 296)),
om 298 7 (ld 297),
mt 299 37,
om 300 31 (.iaddr (.slice 1) (.t 298) (.t 299)),
om 301 63 (ld 300),
om 302 127 (bi .lss (.t 301) (ci 0)),
om 303 255 (.mv (.t 302)),
og 304 303 false 511 (.mv (.t 26)),
og 305 303 false 511 (.mv (.t 36)),
og 306 303 false 2047 (.iaddr (.slice 1) (.t 304) (.t 305)),
og 307 303 false 4095 (ld 306),
og 308 303 false 511 (.mv (.t 37)),
og 309 303 false 16383 (.iaddr (.slice 1) (.t 307) (.t 308)),
og 310 303 false 32767 (ld 309),
og 311 303 false 511 (.mv (.t 28)),
og 312 303 false 511 (.mv (.t 20)),
og 313 303 false 511 (.mv (.t 36)),
og 314 303 false 393727 (.iaddr (.slice 1) (.t 312) (.t 313)),
og 315 303 false 918015 (ld 314),
og 316 303 false 2032127 (.iaddr (.slice 1) (.t 311) (.t 315)),
og 317 303 false 4129279 (ld 316),
og 318 303 false 8323583 (.lenSl (.t 317)),
og 319 303 false 16777215 (bi .geq (.t 310) (.t 318)),
om 320 33554431 (.pick (.t 303) (.c (.bool true)) (.t 319)),
om 321 67108863 (.mv (.t 320)),
og 322 321 false 134217727 (.mv (.t 30)),
og 323 321 false 134217727 (.mv (.t 36)),
og 324 321 false 536870911 (.iaddr (.slice 1) (.t 322) (.t 323)),
og 325 321 false 1073741823 (ld 324),
og 326 321 false 134217727 (.mv (.t 37)),
og 327 321 false 4294967295 (.iaddr (.slice 1) (.t 325) (.t 326)),
og 328 321 false 8589934591 (ld 327),
og 329 321 false 134217727 (.mv (.t 28)),
og 330 321 false 134217727 (.mv (.t 20)),
og 331 321 false 134217727 (.mv (.t 36)),
og 332 321 false 103213432831 (.iaddr (.slice 1) (.t 330) (.t 331)),
og 333 321 false 240652386303 (ld 332),
og 334 321 false 532710162431 (.iaddr (.slice 1) (.t 329) (.t 333)),
og 335 321 false 1082465976319 (ld 334),
og 336 321 false 134217727 (.mv (.t 26)),
og 337 321 false 134217727 (.mv (.t 36)),
og 338 321 false 6597203984383 (.iaddr (.slice 1) (.t 336) (.t 337)),
og 339 321 false 15393297006591 (ld 338),
og 340 321 false 134217727 (.mv (.t 37)),
og 341 321 false 68169855139839 (.iaddr (.slice 1) (.t 339) (.t 340)),
og 342 321 false 138538599317503 (ld 341),
og 343 321 false 281457931059199 (.iaddr (.slice 1) (.t 335) (.t 342)),
og 344 321 false 562932907769855 (ld 343),
og 345 321 false 1125899906842623 (bi .neq (.t 328) (.t 344)),
om 346 2251799813685247 (.pick (.t 321) (.c (.bool true)) (.t 345))])
(.cond (.t 346) (.seq (.reg [oq 12 (.mv (.c (.bool false)))])
.ret) .skip)))
(.reg [mt 293 37,
oq 294 (bi .add (.t 293) (ci 1)),
mt 37 294]))))))
(.drw [mt 347 34,
mt 348 20,
mt 349 36,
om 350 6 (.iaddr (.slice 1) (.t 348) (.t 349)),
om 351 14 (ld 350),
mt 352 26,
mt 353 36,
om 354 96 (.iaddr (.slice 1) (.t 352) (.t 353)),
om 355 224 (ld 354),
mt 356 33,
mt 357 36,
om 358 1536 (.iaddr (.slice 1) (.t 356) (.t 357)),
om 359 3584 (ld 358),
om 360 8160 (.iaddr (.slice 1) (.t 355) (.t 359)),
om 361 16352 (ld 360),
om 362 32767 (.iaddr (.slice 1) (.t 347) (.t 351)),
⟨none,(.x (.st 1 (.t 362) (.t 361))),none,65535⟩]))))
(.reg [mt 272 36,
oq 273 (bi .add (.t 272) (ci 1)),
mt 36 273])))))) ⟨F0, false⟩ Y fun o A' X => o = .normal ∧ aMC S z Ia C Xa 0 A' X := by
 obtain ⟨p13, p20, p22, p24, p26, p28, p30, p32, p33, p34⟩ := hZ
 refine cF ?_
 simp only [↓sU,sD,rE,↓reduceIte,rA]
 refine aU (cI (aMC S z Ia C Xa) ?_ z.n _ _ ⟨rfl, hY, rl, 0, l0, by omega, hl0, fun s hs => by omega, hr, (by refine ⟨?_,?_,?_,?_,?_,?_,?_,?_,?_,?_⟩<;>simp only [↓sU,sD,rE,↓reduceIte,rA,p13,p20,p22,p24,p26,p28,p30,p32,p33,p34]), by simp only [↓sU,sD,rE,↓reduceIte,rA]; try rfl⟩)
 clear p13 p20 p22 p24 p26 p28 p30 p32 p33 p34 rl hr
 rintro k ⟨F, inr⟩ X ⟨q0, hX, rl, i, l, hik, hl, hf, hr, ⟨p13, p20, p22, p24, p26, p28, p30, p32, p33, p34⟩, p36⟩
 simp only at q0 p13 p20 p22 p24 p26 p28 p30 p32 p33 p34 p36
 subst q0
 refine jH ?_
 simp only [↓sU,sD,rE,↓reduceIte,rA, p32, p36]
 by_cases hlt : i < z.n
 rotate_left
 ·refine aT (by simp only [↓sU,sD,rE,↓reduceIte,rA, Aa (show ¬ (i : Int) < (z.n : Int) by omega)]) (cC ?_)
  simp only [↓sU,sD,rE,↓reduceIte,rA]
  obtain rfl : k = 0 := by omega
  exact ⟨rfl, hX, rl, i, l, hik, hl, hf, hr, (by refine ⟨?_,?_,?_,?_,?_,?_,?_,?_,?_,?_⟩<;>simp only [↓sU,sD,rE,↓reduceIte,rA,p13,p20,p22,p24,p26,p28,p30,p32,p33,p34]), by simp only [↓sU,sD,rE,↓reduceIte,rA, p36]⟩
 refine aY (by simp only [↓sU,sD,rE,↓reduceIte,rA, Ad (show (i : Int) < (z.n : Int) by omega)]) (aN ?_)
 try simp only [↓sU,sD,rE,↓reduceIte,rA]
 have n200 := hP.n200
 have w1 : IntKind.i64.wrap ((i : Int) + 1) = ((i + 1 : Nat) : Int) := by rw [wrap_i64 (by omega) (by omega)]; omega
 have aX := hL.a.same hX
 have bX := hL.b.same hX
 have cX := hL.c.same hX
 obtain ⟨ra1, ra2⟩ := hP.ra i hlt
 obtain ⟨j, hj⟩ : ∃ j : Nat, Ia.getD i 0 = (j : Int) := ⟨(Ia.getD i 0).toNat, by omega⟩
 have hbo := hP.both i hlt
 have hinj := fun s hs => hP.inj s i hs hlt
 have ia := aX.iaddr (show i < Ia.length by have := hP.la; omega)
 have la := aX.ld (show i < Ia.length by have := hP.la; omega)
 have ic := cX.iaddr (show i < Ic.length by have := hP.lc; omega)
 have lc := cX.ld (show i < Ic.length by have := hP.lc; omega)
 rw [hj] at la ra2
 rw [hj, Ba] at hbo
 have ib := bX.iaddr (show j < Ib.length by have := hP.lb; omega)
 have lb := bX.ld (show j < Ib.length by have := hP.lb; omega)
 rw [hbo] at lc
 generalize hy : Ib.getD j 0 = y at lb lc
 have d1 : decide (y ≠ y) = false := Aa (fun h => h rfl)
 refine aD (aU (aD (aD (gE ?_))))
 simp only [↓sU,sD,rE,↓reduceIte,rA, p20, p22, p24, p36, aG, ia, la, ib, lb, ic, lc, dO, d1]
 refine aT (by simp only [↓sU,sD,rE,↓reduceIte,rA]) (aN ?_)
 try simp only [↓sU,sD,rE,↓reduceIte,rA]
 have hX' : Same S ⟨X.h, X.nx + 12⟩ := hX.trans (Same.nx X 12)
 refine aD (bN (aJW (i := i) (Y := ⟨X.h, X.nx + 12⟩) hL hP (by refine ⟨?_,?_,?_,?_,?_,?_,?_,?_,?_,?_⟩<;>simp only [↓sU,sD,rE,↓reduceIte,rA,p13,p20,p22,p24,p26,p28,p30,p32,p33,p34]) (by simp only [↓sU,sD,rE,↓reduceIte,rA, p36]) hlt hX') ?_)
 clear p13 p20 p22 p24 p26 p28 p30 p32 p33 p34 p36 ia la ib lb ic lc aX bX cX
 rintro o ⟨F, inr⟩ V ⟨rfl, q0, hXV, q, hqk, ⟨p13, p20, p22, p24, p26, p28, p30, p32, p33, p34⟩, p36, p37⟩
 simp only at q0 p13 p20 p22 p24 p26 p28 p30 p32 p33 p34 p36
 subst q0
 have sV := hX'.trans hXV
 have rl' : z.rb < (⟨X.h, X.nx + 12⟩ : St).nx := by simp only; omega
 have hrV : V.h.get z.rb = some (.cells (bB l) false 0) := (hXV.2 _ rl').trans hr
 have rlV : z.rb < V.nx := Ae rl' hXV.1
 obtain ⟨g1, g2⟩ := hP.ch i hlt
 obtain ⟨t, ht⟩ : ∃ t : Nat, C.getD i 0 = (t : Int) := ⟨(C.getD i 0).toNat, by omega⟩
 have ia := (hL.a.same sV).iaddr (show i < Ia.length by have := hP.la; omega)
 have la := (hL.a.same sV).ld (show i < Ia.length by have := hP.la; omega)
 have ic := (hL.ch.same sV).iaddr (show i < C.length by have := hP.lch; omega)
 have lc := (hL.ch.same sV).ld (show i < C.length by have := hP.lch; omega)
 rw [hj] at la
 rw [ht] at lc g2
 obtain ⟨xb1, xq1, a1, xi1, xs1, xl1⟩ := vB (i := i) hL.xa (by have := hP.lxa; omega)
 have xl1 := xl1 V sV
 have s1 := bO.self xs1
 have i1 := (xs1.same sV).iaddr (show t < (Xa.getD i []).length by omega)
 have l1 := (xs1.same sV).ld (show t < (Xa.getD i []).length by omega)
 have hjl : j < z.n := by omega
 have hir := fV (b := z.rb) (o := false) hjl
 try simp only [↓sU,sD,rE,↓reduceIte,rA]
 refine mL (pre := aNn) (K := 16) (m := 65535) (n := 1) (x := .t 362) (v := .t 361) rfl rfl rfl rfl ?_
 unfold aNn
 simp only [↓aH,aJ,rE,↓reduceIte, rA, p20, p26, p33, p34, p36, aG, ia, la, ic, lc, xi1, xl1, s1, i1, l1, hir, dO]
 simp only [cT, aE]
 refine ⟨_, uA (S := ⟨V.h, V.nx + 17⟩) hrV (by omega), ?_⟩
 try simp only [↓sU,sD,rE,↓reduceIte,rA]
 refine aP ?_
 simp only [↓sU,sD,rE,↓reduceIte,rA, p36, w1]
 refine ⟨k - 1, by omega, rfl, (sV.trans (Same.nx V 17)).put rs _, by simp only; omega, i + 1, l.set j ((Xa.getD i []).getD t 0), by omega, by rw [Au]; exact hl, fun s hs => ?_, by simp only; rw [T.get_set, if_pos rfl], (by refine ⟨?_,?_,?_,?_,?_,?_,?_,?_,?_,?_⟩<;>simp only [↓sU,sD,rE,↓reduceIte,rA,p13,p20,p22,p24,p26,p28,p30,p32,p33,p34]), by simp only [↓sU,sD,rE,↓reduceIte,rA]⟩
 rw [fS (by omega)]
 by_cases e : s = i
 ·subst e
  rw [hj, Ba, if_pos rfl, ht, Ba]
 ·have hsn : s < z.n := by omega
  have := hP.ra s hsn
  rw [if_neg (fun e2 => e (hinj s hsn (by omega)))]
  exact hf s (by omega)
end
theorem aMH {F : Fr} {h : Ev.T AB} {t : Nat} {v : AV} (e : aC t F = v) (hc : v.cells = some [v]) : gR (.build [.nilsl, .int .i64 0] [(0, 1, .t t)]) F h = some (.agg [v, .int .i64 0]) := aNo e hc
theorem aJS {g : bF} {a b c : List Int} (hf : dF g = 0) (hN : ∀ x ∈ g.nodes, gT g.players g.infos x) (A : fR g a) (B : fR g b) (C : aDV g c) : aJY g.infos.length g (imgI g a) (imgI g b) (imgI g (jG a b)) c (imgA g a) (imgA g b) (imgA g (jG a b)) := by
 have G := jA hf
 have hl : ∀ (m : List Int) s, s < g.infos.length → ((((imgA g m).getD s []).length : Nat) : Int) = (infoAt g (s : Int)).actions := fun m s hs => by
  rw [aAh hs, Av, Cy]
  exact (aHX G hs).symm
 have hk : ∀ s k, s < g.infos.length → k < ((imgA g a).getD s []).length → k < (nodeAt g (fN g s)).next.length := fun s k hs hk => by
  rwa [aAh hs, Av, Cy] at hk
 refine ⟨aAS hf, by simp [imgI], by simp [imgI], by simp [imgI], by simp [imgA], by simp [imgA], by simp [imgA], C.len, rfl, fun i hi => aAt G A hi, fun i hi => aAt G B hi, fun i hi => hl a i hi, fun i hi => hl b i hi, fun i hi => hl _ i hi, fun i hi => ?_, fun i hi => aHo G A B hi, fun i k hi hki => ?_, fun i hi => ?_, fun i j hi hj e => aIz G A hi hj e⟩
 ·have := (aGa hf hN hi).2
  omega
 ·have hk' := hk i k hi hki
  obtain ⟨h1, h2⟩ := aKt G A B hi hk'
  exact ⟨h1, h2, aHk G A B hi hk'⟩
 ·rw [hl a i hi]
  exact C.ok i hi
theorem aF5.same {S S' : St} {z : aFd} {g : bF} {Ia Ib Ic C : List Int} {Xa Xb Xc : List (List Int)} (h : aF5 S z g Ia Ib Ic C Xa Xb Xc) (hs : Same S S') : aF5 S' z g Ia Ib Ic C Xa Xb Xc :=
 ⟨Ae h.gl hs.1, (hs.2 _ h.gl).trans h.gg, h.a.same hs, h.b.same hs, h.c.same hs, aM.same (E := SlE) mU h.xa hs, aM.same (E := SlE) mU h.xb hs, aM.same (E := SlE) mU h.xc hs, h.ch.same hs, aM.same (E := dB) cQ h.iv hs⟩
theorem aDg {S : St} {lv ev : AV} {dl dc : List Int} {p c i0 i1 : Int} {seen : Bool} (H : Has fns) (hAw : ∀ S, iM fns (.fn 14 [] []) [] S fun r S' => r = .bool true ∧ Same S S') (hl : bO .i64 S lv dl) (hlb : dl.length ≤ 140737488355328) (he : bO .i64 S ev dc) (heb : dc.length ≤ 140737488355328) :
  iM fns (.fn 4 [] []) [lv, .int .i64 p, .int .i64 c, .bool seen, .agg [.int .i64 i0, .int .i64 i1], ev] S fun r S' => r = .bool true ∧ Same S S' := by
 have hec := bO.cells he
 have hbd1 := fun (F : Fr) (h : Ev.T AB) (a : aC 187 F = ev) => aMH (t := 187) (F := F) (h := h) a hec
 refine cV H.f4 (by simp) ?_
 simp only [↓sU,sD,rE,↓reduceIte,rA]
 refine cF ?_
 refine eQ (cs := [.int .i64 i0, .int .i64 i1]) rfl ?_
 intro S1 s1 n1 g1
 simp only [↓sU,sD,rE,↓reduceIte,rA]
 refine jH ?_
 simp only [↓sU,sD,rE,↓reduceIte,rA]
 refine bJ ?_
 simp only [↓sU,sD,rE,↓reduceIte,rA]
 refine aW (hAw S1) ?_
 rintro _ S2 ⟨rfl, s2⟩
 simp only [↓sU,sD,rE,↓reduceIte,rA, gS, De]
 refine aT (by simp only [↓sU,sD,rE,↓reduceIte,rA]) (aN ?_)
 try simp only [↓sU,sD,rE,↓reduceIte,rA]
 have s12 := s1.trans s2
 have hl2 := hl.same s12
 have he2 := he.same s12
 refine jH ?_
 by_cases h80 : dl.length > 80
 ·simp only [↓sU,sD,rE,↓reduceIte,rA, hl2.len, Aj, Ad (show ((dl.length : Nat) : Int) > 80 by omega), iB, fA, aF]
  refine aY (by simp only [↓sU,sD,rE,↓reduceIte,rA]) ?_
  refine cF ?_
  simp only [↓sU,sD,rE,↓reduceIte,rA]
  refine bD ?_
  simp only [↓sU,sD,rE,↓reduceIte,rA]
  exact s12
 by_cases h20 : dc.length > 20
 ·simp only [↓sU,sD,rE,↓reduceIte,rA, hl2.len, he2.len, Aj, Aa (show ¬ ((dl.length : Nat) : Int) > 80 by omega), Ad (show ((dc.length : Nat) : Int) > 20 by omega), iB, fA, aL]
  refine aY (by simp only [↓sU,sD,rE,↓reduceIte,rA]) ?_
  refine cF ?_
  simp only [↓sU,sD,rE,↓reduceIte,rA]
  refine bD ?_
  simp only [↓sU,sD,rE,↓reduceIte,rA]
  exact s12
 simp only [↓sU,sD,rE,↓reduceIte,rA, hl2.len, he2.len, Aj, Aa (show ¬ ((dl.length : Nat) : Int) > 80 by omega), Aa (show ¬ ((dc.length : Nat) : Int) > 20 by omega), iB, fA, aL]
 refine aT (by simp only [↓sU,sD,rE,↓reduceIte,rA]) (aN ?_)
 try simp only [↓sU,sD,rE,↓reduceIte,rA]
 refine cF ?_
 simp only [↓aH,aJ,rE,↓reduceIte, rA]
 refine bJ ?_
 simp only [↓aH,aJ,rE,↓reduceIte, rA]
 refine aW (aFC (p := p) (c := c) (seen := seen) H hl2 hlb) ?_
 rintro _ S3 ⟨s3, g, nv, iv, v, L, rfl, hf, hn, hi, hL, l1, l5, hall, hn30, hN⟩
 simp only [↓aH,aJ,rE,↓reduceIte, rA, vE, vD, ex2]
 refine dC ?_
 intro S4 s4 n4 g4
 try simp only [↓aH,aJ,rE,↓reduceIte, rA]
 refine dU (b := S3.nx) (by simp only [↓aH,aJ,rE,↓reduceIte, rA]) (by simp only [↓aH,aJ,rE,↓reduceIte, rA]; exact bK _) g4 rfl rfl ?_
 intro S5 v5 k5 g5
 try simp only [↓aH,aJ,rE,↓reduceIte, rA]
 have s35 : Same S3 S5 := v5.same s4 (Af _)
 have m3 := s3.1
 have m2 := s2.1
 have m5 := s35.1
 have G := jA hf
 have K := aDT hf
 have sS5 := (s12.trans s3).trans s35
 have hn5 := aM.same (E := cL) cB hn s35
 have hi5 := aM.same (E := dB) cQ hi s35
 have hL5 := aM.same (E := SlE) mU hL s35
 have l9 : S.nx < S5.nx := by omega
 have l11 : S3.nx < S5.nx := by omega
 have g9 : S5.h.get S.nx = some (.cells [.int .i64 i0, .int .i64 i1] false 0) := (s35.2 _ (by omega)).trans ((s3.2 _ (by omega)).trans ((s2.2 _ (by omega)).trans g1))
 clear v5 g4 s4 k5 n4 hn hi hL g1
 try simp only [↓sU,sD,rE,↓reduceIte,rA]
 refine jH ?_
 simp only [↓sU,sD,rE,↓reduceIte,rA, gS, De]
 refine aT (by simp only [↓sU,sD,rE,↓reduceIte,rA]) (aN ?_)
 try simp only [↓sU,sD,rE,↓reduceIte,rA]
 have lvn := aM.len hL5
 have ia0 : eT (.arr 2 1) (.ptr S.nx 0) 0 = some (.ptr S.nx 0) := rfl
 have ia1 : eT (.arr 2 1) (.ptr S.nx 0) 1 = some (.ptr S.nx 1) := rfl
 have ld0 : fH (.ptr S.nx 0) false 1 S5.h = some (.int .i64 i0) := cS (p := 0) g9 rfl
 have ld1 : fH (.ptr S.nx 1) false 1 S5.h = some (.int .i64 i1) := cS (p := 1) g9 rfl
 have aDp : eX (.int .i64 0) = some 0 := rfl
 have nat1 : eX (.int .i64 1) = some 1 := rfl
 refine aD (mN (fun _ => False) ?_)
 intro X0 x0
 simp only [↓sU,sD,rE,↓reduceIte,rA, ia0, ia1, ld0, ld1, l9, Ax, aDp, nat1, lvn, dO]
 refine iF rfl ?_
 simp only [↓sU,sD,rE,↓reduceIte,rA]
 refine aW (pM H (n := ((L.length : Nat) : Int)) (by omega) (by omega)) ?_
 rintro _ X1 ⟨x1, y, rfl, ya, yb⟩
 obtain ⟨ka, rfl⟩ : ∃ k : Nat, y = (k : Int) := ⟨y.toNat, by omega⟩
 obtain ⟨_, b1, q1, ja1, lb1, _, ⟨a1, rfl, h1⟩, _, hf1⟩ := aM.at hL5 (by decide) (Ab (show ka < L.length by omega))
 have la1 := hf1 0 a1 rfl
 rw [Bj] at la1
 have sa1 := bO.self h1
 obtain ⟨A, A2⟩ := hall _ (Bt (show ka < L.length by omega))
 refine ⟨x1, ?_⟩
 simp only [↓sU,sD,rE,↓reduceIte,rA, ia0, ia1, ld0, ld1, l9, Ax, aDp, nat1, lvn, dO, aG, ja1, la1, sa1, lb1]
 refine iF rfl ?_
 simp only [↓sU,sD,rE,↓reduceIte,rA]
 refine aW (pM H (n := ((L.length : Nat) : Int)) (by omega) (by omega)) ?_
 rintro _ X2 ⟨x2, y, rfl, yc, yd⟩
 obtain ⟨kb, rfl⟩ : ∃ k : Nat, y = (k : Int) := ⟨y.toNat, by omega⟩
 obtain ⟨_, b2, q2, ja2, lb2, _, ⟨a2, rfl, h2⟩, _, hf2⟩ := aM.at hL5 (by decide) (Ab (show kb < L.length by omega))
 have la2 := hf2 0 a2 rfl
 rw [Bj] at la2
 have sa2 := bO.self h2
 obtain ⟨B, B2⟩ := hall _ (Bt (show kb < L.length by omega))
 refine ⟨x2, ?_⟩
 simp only [↓sU,sD,rE,↓reduceIte,rA, ia0, ia1, ld0, ld1, l9, Ax, aDp, nat1, lvn, dO, aG, ja2, la2, sa2, lb2]
 have t0 : Same S5 X2 := (x0.trans x1).trans x2
 clear x0 x1 x2 hf1 hf2 la1 la2 ja1 ja2 ld0 ld1 ia0 ia1 g9
 generalize L[ka] = a at h1 A A2
 generalize L[kb] = b at h2 B B2
 have AB := aHK G A B
 have gX2 := (t0.2 _ l11).trans g5
 refine cF ?_
 simp only [↓sU,sD,rE,↓reduceIte,rA, jF gX2]
 refine bJ ?_
 simp only [↓sU,sD,rE,↓reduceIte,rA]
 refine aW (aFn H hf (aM.same (E := cL) cB hn5 t0) (aM.same (E := dB) cQ hi5 t0) (h1.same t0) (h2.same t0) A B) ?_
 rintro _ Y0 ⟨y0, w0, rfl, e0⟩
 simp only [↓sU,sD,rE,↓reduceIte,rA, vE, vD]
 have t1 := t0.trans y0
 have gY0 := (t1.2 _ l11).trans g5
 refine cF ?_
 simp only [↓sU,sD,rE,↓reduceIte,rA, jF gY0]
 refine bJ ?_
 simp only [↓sU,sD,rE,↓reduceIte,rA]
 refine aW (sI H hf (aM.same (E := cL) cB hn5 t1) (aM.same (E := dB) cQ hi5 t1) (h1.same t1) A) ?_
 rintro _ Y1 ⟨y1, w1, rfl, e1⟩
 simp only [↓sU,sD,rE,↓reduceIte,rA, vE, vD]
 have t2 := t1.trans y1
 have gY1 := (t2.2 _ l11).trans g5
 refine cF ?_
 simp only [↓sU,sD,rE,↓reduceIte,rA, jF gY1]
 refine bJ ?_
 simp only [↓sU,sD,rE,↓reduceIte,rA]
 refine aW (sI H hf (aM.same (E := cL) cB hn5 t2) (aM.same (E := dB) cQ hi5 t2) (h2.same t2) B) ?_
 rintro _ Y2 ⟨y2, w2, rfl, e2⟩
 simp only [↓sU,sD,rE,↓reduceIte,rA, vE, vD]
 have t3 := t2.trans y2
 have gY2 := (t3.2 _ l11).trans g5
 refine cF ?_
 simp only [↓sU,sD,rE,↓reduceIte,rA, jF gY2]
 refine bJ ?_
 simp only [↓sU,sD,rE,↓reduceIte,rA]
 refine aW (sI H hf (aM.same (E := cL) cB hn5 t3) (aM.same (E := dB) cQ hi5 t3) (e0.same (y1.trans y2)) AB) ?_
 rintro _ Y3 ⟨y3, w3, rfl, e3⟩
 simp only [↓sU,sD,rE,↓reduceIte,rA, vE, vD]
 have t4 := t3.trans y3
 have gY3 := (t4.2 _ l11).trans g5
 refine cF ?_
 simp only [↓sU,sD,rE,↓reduceIte,rA, jF gY3]
 refine bJ ?_
 simp only [↓sU,sD,rE,↓reduceIte,rA]
 refine aW (oO H hf (aM.same (E := cL) cB hn5 t4) (aM.same (E := dB) cQ hi5 t4) (h1.same t4) A) ?_
 rintro _ Y4 ⟨y4, w4, rfl, e4⟩
 simp only [↓sU,sD,rE,↓reduceIte,rA, vE, vD]
 have t5 := t4.trans y4
 have gY4 := (t5.2 _ l11).trans g5
 refine cF ?_
 simp only [↓sU,sD,rE,↓reduceIte,rA, jF gY4]
 refine bJ ?_
 simp only [↓sU,sD,rE,↓reduceIte,rA]
 refine aW (oO H hf (aM.same (E := cL) cB hn5 t5) (aM.same (E := dB) cQ hi5 t5) (h2.same t5) B) ?_
 rintro _ Y5 ⟨y5, w5, rfl, e5⟩
 simp only [↓sU,sD,rE,↓reduceIte,rA, vE, vD]
 have t6 := t5.trans y5
 have gY5 := (t6.2 _ l11).trans g5
 refine cF ?_
 simp only [↓sU,sD,rE,↓reduceIte,rA, jF gY5]
 refine bJ ?_
 simp only [↓sU,sD,rE,↓reduceIte,rA]
 refine aW (oO H hf (aM.same (E := cL) cB hn5 t6) (aM.same (E := dB) cQ hi5 t6) (e0.same ((((y1.trans y2).trans y3).trans y4).trans y5)) AB) ?_
 rintro _ Y6 ⟨y6, w6, rfl, e6⟩
 simp only [↓sU,sD,rE,↓reduceIte,rA, vE, vD]
 have t7 := t6.trans y6
 have gY6 := (t7.2 _ l11).trans g5
 have z1 := e1.same (((((y2.trans y3).trans y4).trans y5)).trans y6)
 have z2 := e2.same ((((y3.trans y4).trans y5)).trans y6)
 have z3 := e3.same (((y4.trans y5)).trans y6)
 have z4 := aM.same (E := SlE) mU e4 (y5.trans y6)
 have z5 := aM.same (E := SlE) mU e5 y6
 have hi7 := aM.same (E := dB) cQ hi5 t7
 have hn7 := aM.same (E := cL) cB hn5 t7
 have he7 := he.same (sS5.trans t7)
 have k1 : (imgI g a).length = g.infos.length := by simp [imgI]
 have k2 : (imgI g b).length = g.infos.length := by simp [imgI]
 have k3 : (imgI g (jG a b)).length = g.infos.length := by simp [imgI]
 have k4 : (imgA g a).length = g.infos.length := by simp [imgA]
 have k5 : (imgA g b).length = g.infos.length := by simp [imgA]
 have k6 : (imgA g (jG a b)).length = g.infos.length := by simp [imgA]
 have u1 := z1.len
 have u2 := z2.len
 have u3 := z3.len
 have u4 := aM.len z4
 have u5 := aM.len z5
 have u6 := aM.len e6
 rw [k1] at u1
 rw [k2] at u2
 rw [k3] at u3
 rw [k4] at u4
 rw [k5] at u5
 rw [k6] at u6
 have d0 : decide ((0 : Int) ≠ 0) = false := rfl
 have d1 : decide (((g.infos.length : Nat) : Int) ≠ ((g.infos.length : Nat) : Int)) = false := Aa fun h => h rfl
 refine cF ?_
 simp only [↓sU,sD,rE,↓reduceIte,rA, aA, aB, oC gY6, aM.len hi7, Aj]
 refine jH ?_
 simp only [↓sU,sD,rE,↓reduceIte,rA, d0, u1, u2, u3, u4, u5, u6, Aj, d1, iB, fA, aL]
 refine aT (by simp only [↓sU,sD,rE,↓reduceIte,rA]; try rfl) (aN ?_)
 try simp only [↓sU,sD,rE,↓reduceIte,rA]
 have t7n := t7.1
 refine cF ?_
 simp only [↓aH,aJ,rE,↓reduceIte, rA, hbd1]
 refine eQ (cs := [ev, .int .i64 0]) (by simp only [↓aH,aJ,rE,↓reduceIte, rA]; exact bK _) ?_
 intro V1 v1 m1 f1
 have gV1 := (v1.2 _ (show S3.nx < Y6.nx by omega)).trans gY6
 simp only [↓aH,aJ,rE,↓reduceIte, rA, jF gV1]
 have hd1 : nD V1 Y6.nx ev dc := ⟨by omega, ⟨0, f1, Ci _⟩, he7.same v1, fun e => by have := dV he7 e; omega, heb⟩
 refine bJ ?_
 simp only [↓sU,sD,rE,↓reduceIte,rA]
 refine aW (aBX H hd1 (fun X' q1 q2 => aM.same (E := dB) cQ hi7 ⟨by omega, fun b hb => (q2 b (by omega) (by omega)).trans (v1.2 b hb)⟩) (fun i hi => aGa hf hN hi) (aAS hf)) ?_
 rintro cv V2 ⟨v2, _, ch, hch, C, hcb⟩
 have v12 : Same Y6 V2 := cU.same v1 v2 (Af _)
 have gV2 := (v12.2 _ (show S3.nx < Y6.nx by omega)).trans gY6
 have n200 := aAS hf
 have v2n := v12.1
 clear v1 v2 m1 f1 gV1 hd1
 try simp only [↓sU,sD,rE,↓reduceIte,rA]
 refine cF ?_
 simp only [↓aH,aJ,rE,↓reduceIte, rA]
 refine iO (qR (n := g.infos.length) (by simp only [↓aH,aJ,rE,↓reduceIte, rA, aG]) (by simp only [↓aH,aJ,rE,↓reduceIte, rA, aG]) (by unfold room; omega) (by unfold room; omega)) ?_
 intro V3 v3 m3 f3
 rw [tB] at f3
 simp only [↓aH,aJ,rE,↓reduceIte, rA]
 have hP := aJS hf hN A B C
 have hS : aF5 V2 ⟨w1, w2, w3, w4, w5, w6, cv, nv, iv, S3.nx, V2.nx, g.infos.length⟩ g (imgI g a) (imgI g b) (imgI g (jG a b)) ch (imgA g a) (imgA g b) (imgA g (jG a b)) := ⟨by simp only; omega, gV2, z1.same v12, z2.same v12, z3.same v12, aM.same (E := SlE) mU z4 v12, aM.same (E := SlE) mU z5 v12, aM.same (E := SlE) mU e6 v12, hch, aM.same (E := dB) cQ hi7 v12⟩
 refine aD (bN (aJ4 (S := V3) (hS.same v3) hP ⟨by simp only [↓sU,sD,rE,↓reduceIte,rA], by simp only [↓sU,sD,rE,↓reduceIte,rA], by simp only [↓sU,sD,rE,↓reduceIte,rA], by simp only [↓sU,sD,rE,↓reduceIte,rA], by simp only [↓sU,sD,rE,↓reduceIte,rA], by simp only [↓sU,sD,rE,↓reduceIte,rA], by simp only [↓sU,sD,rE,↓reduceIte,rA], by simp only [↓sU,sD,rE,↓reduceIte,rA], by simp only [↓sU,sD,rE,↓reduceIte,rA], by simp only [↓sU,sD,rE,↓reduceIte,rA]; try rfl⟩ (Same.refl _)) ?_)
 rintro o ⟨F, inr⟩ V4 ⟨rfl, q0, v4, i, _, hZ, _⟩
 simp only at q0 hZ
 subst q0
 try simp only [↓sU,sD,rE,↓reduceIte,rA]
 have l34 := v4.1
 refine aD (bN (aJQ (S := V2) (l0 := List.replicate g.infos.length 0) hS hP hZ (v3.trans v4) (Af _) (by simp only; omega) ((v4.2 _ (by simp only; omega)).trans f3) (Ap ..)) ?_)
 rintro o ⟨F, inr⟩ V5 ⟨rfl, q0, v5, lr5, i, l, hil, hll, hfl, hr5, ⟨p13, _, _, _, _, _, _, _, p33, p34⟩, _⟩
 simp only at q0 hil hll hfl hr5 lr5 p13 p33 p34
 subst q0
 obtain rfl : i = g.infos.length := by omega
 have I : aLi g a ch l := ⟨hll, fun s hs => hfl s hs⟩
 obtain ⟨T, hT, hTl, _⟩ := G.walk
 obtain ⟨n, hpn⟩ : ∃ n : Nat, g.players = (n : Int) := ⟨g.players.toNat, by have := K.prs; omega⟩
 have hPG : aCv g T n := ⟨K, hT, hTl, hn30, hpn, hN⟩
 have n1 := G.n1
 have v25 := v12.trans v5
 have gV5 := (v5.2 _ (show S3.nx < V2.nx by omega)).trans gV2
 rw [hpn] at gV5
 have hn8 := aM.same (E := cL) cB hn7 v25
 have hl5 : bO .i64 V5 (.sl V2.nx 0 g.infos.length g.infos.length false) l := uI hr5 lr5 hll
 try simp only [↓sU,sD,rE,↓reduceIte,rA]
 refine cF ?_
 simp only [↓sU,sD,rE,↓reduceIte,rA, p13, p33, aA, aB, vH gV5, kI gV5]
 refine bJ ?_
 simp only [↓sU,sD,rE,↓reduceIte,rA]
 refine aW (yK (c := ch) (f := g.nodes.length) (i := 0) H hPG n1 (by omega) hn8 (hch.same v5)) ?_
 rintro _ V6 ⟨v6, x, P, d, rfl, hx, _, hlx, _, _⟩
 simp only [↓sU,sD,rE,↓reduceIte,rA, vE, vD]
 have gV6 := (v6.2 _ (by have := v5.1; omega)).trans gV5
 refine cF ?_
 simp only [↓sU,sD,rE,↓reduceIte,rA, p13, p34, aA, aB, vH gV6, kI gV6]
 refine bJ ?_
 simp only [↓sU,sD,rE,↓reduceIte,rA]
 refine aW (yK (c := l) (f := g.nodes.length) (i := 0) H hPG n1 (by omega) (aM.same (E := cL) cB hn8 v6) (hl5.same v6)) ?_
 rintro _ V7 ⟨v7, y, P', d', rfl, hy, _, hly, _, _⟩
 simp only [↓sU,sD,rE,↓reduceIte,rA, vE, vD]
 have hroot : eK a 0 = 0 := by
  unfold eK
  rw [A.A.root]
  rfl
 have hval : ∀ q, nE g ch q g.nodes.length 0 = nE g l q g.nodes.length 0 := fun q => by
  have := aBs G K.knd A C I (q := q) (f := g.nodes.length) (i := 0) n1
  rwa [hroot] at this
 have hlx' : aDq (fun q => nE g l q g.nodes.length 0) n P d := ⟨hlx.len, hlx.pos, fun q hq => by rw [hlx.eq q hq, hval q], hlx.low⟩
 obtain ⟨rfl, rfl⟩ := aKN hlx' hly
 refine cF ?_
 simp only [↓sU,sD,rE,↓reduceIte,rA]
 refine bJ ?_
 simp only [↓sU,sD,rE,↓reduceIte,rA]
 refine aW (zN H (hx.same v7) hy (by rw [hlx.len]; have := K.prs; omega)) ?_
 rintro _ V8 ⟨rfl, v8⟩
 rw [Ad rfl]
 simp only [↓sU,sD,rE,↓reduceIte,rA, iB, fA, aF]
 refine bD ?_
 simp only [↓sU,sD,rE,↓reduceIte,rA, decide_true]
 exact sS5.trans (t7.trans (v25.trans (v6.trans (v7.trans v8))))
end Go.Ev.Gl
