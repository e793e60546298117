import Derived.Test.YtoojnpjgnnpllaaGl7
open Nat renaming reduceEqDiff → rE, reduceAdd → rA
set_option maxHeartbeats 16000000
set_option linter.unusedSimpArgs false
set_option linter.unusedVariables false
namespace Go.Ev.Gl
variable {fns : T eJ}
def aMJ (S : St) (a b : AV) (l m : List Int) (k : Nat) (A : bT) (X : St) : Prop := A.inr = false ∧ Same S X ∧ ∃ i, i + k = l.length ∧ l.take i = m.take i ∧ aC 0 A.F = a ∧ aC 1 A.F = b ∧ aC 5 A.F = .int .i64 (i : Int)
theorem aEs {S : St} {a b : AV} {l m : List Int} (H : Has fns) (ha : bO .i64 S a l) (hb : bO .i64 S b m) (hl : l.length ≤ 140737488355328) : iM fns (.fn 19 [] []) [a, b] S fun r S' => r = .bool (decide (l = m)) ∧ Same S S' := by
 refine cV H.f19 (by simp) ?_
 simp only [↓aH,aJ,rE,↓reduceIte, rA]
 refine cF ?_
 simp only [↓aH,aJ,rE,↓reduceIte, rA]
 refine jH ?_
 simp only [↓aH,aJ,rE,↓reduceIte, rA, ha.len, hb.len, Aj]
 by_cases hlm : l.length = m.length
 rotate_left
 ·rw [Aa (show ¬ l = m from fun e => hlm (by rw [e]))]
  refine aY (by simp only [↓aH,aJ,rE,↓reduceIte, rA, Ad (show ((l.length : Nat) : Int) ≠ ((m.length : Nat) : Int) by omega)]) ?_
  refine cF ?_
  simp only [↓aH,aJ,rE,↓reduceIte, rA]
  refine bD ?_
  simp only [↓aH,aJ,rE,↓reduceIte, rA]
  exact Same.refl _
 refine aT (by simp only [↓aH,aJ,rE,↓reduceIte, rA, Aa (show ¬ ((l.length : Nat) : Int) ≠ ((m.length : Nat) : Int) by omega)]) (aN ?_)
 try simp only [↓aH,aJ,rE,↓reduceIte, rA]
 refine aD (bN (Q := fun o A' X => (o = .normal ∧ aMJ S a b l m 0 A' X) ∨ (o = .ret ∧ Same S X ∧ l ≠ m ∧ aC 4 A'.F = .bool false)) (aD (aP ?_)) ?_)
 ·simp only [↓aH,aJ,rE,↓reduceIte, rA]
  refine aU (cI (aMJ S a b l m) ?_ l.length _ _ ⟨rfl, Same.refl _, 0, by omega, rfl, by refine ⟨?_,?_,?_⟩<;>simp only [↓aH,aJ,rE,↓reduceIte,rA]⟩)
  rintro k ⟨F, inr⟩ X ⟨q0, hX, i, hik, he, p0, p1, p5⟩
  simp only at q0 p0 p1 p5
  subst q0
  refine jH ?_
  simp only [↓aH,aJ,rE,↓reduceIte, rA, p0, p5, ha.len, Aj]
  by_cases hlt : i < l.length
  ·refine aY (by simp only [↓aH,aJ,rE,↓reduceIte, rA, Ad (show (i : Int) < ((l.length : Nat) : Int) by omega)]) (aN ?_)
   try simp only [↓aH,aJ,rE,↓reduceIte, rA]
   have hltm : i < m.length := by omega
   have ia := (ha.same hX).iaddr hlt
   have la := (ha.same hX).ld hlt
   have ib := (hb.same hX).iaddr hltm
   have lb := (hb.same hX).ld hltm
   have w1 : IntKind.i64.wrap ((i : Int) + 1) = ((i + 1 : Nat) : Int) := by rw [wrap_i64 (by omega) (by omega)]; omega
   refine aD (aU (aD (gE ?_)))
   simp only [↓aH,aJ,rE,↓reduceIte, rA, p0, p1, p5, aG, ia, ib, la, lb]
   have el : l.getD i 0 = l[i] := by rw [Ac, Ab hlt]; rfl
   have em : m.getD i 0 = m[i] := by rw [Ac, Ab hltm]; rfl
   by_cases hx : l.getD i 0 = m.getD i 0
   ·refine aT (by simp only [↓aH,aJ,rE,↓reduceIte, rA, Aa (show ¬ l.getD i 0 ≠ m.getD i 0 from fun h => h hx)]) (aN ?_)
    try simp only [↓aH,aJ,rE,↓reduceIte, rA]
    refine aP ?_
    simp only [↓aH,aJ,rE,↓reduceIte, rA, p5, w1]
    refine ⟨k - 1, by omega, rfl, hX.trans (Same.nx _ _), i + 1, by omega, ?_, by refine ⟨?_,?_,?_⟩<;>simp only [↓aH,aJ,rE,↓reduceIte,rA,p0,p1]⟩
    rw [Cl, Cl, he, Ab hlt, Ab hltm, ← el, ← em, hx]
   ·refine aY (by simp only [↓aH,aJ,rE,↓reduceIte, rA, Ad (show l.getD i 0 ≠ m.getD i 0 from hx)]) ?_
    refine cF ?_
    simp only [↓aH,aJ,rE,↓reduceIte, rA]
    refine bD ?_
    simp only [↓aH,aJ,rE,↓reduceIte, rA]
    exact .inr ⟨hX.trans (Same.nx _ _), fun e => hx (by rw [e])⟩
  ·refine aT (by simp only [↓aH,aJ,rE,↓reduceIte, rA, Aa (show ¬ (i : Int) < ((l.length : Nat) : Int) by omega)]) (cC ?_)
   simp only [↓aH,aJ,rE,↓reduceIte, rA]
   have hk0 : k = 0 := by omega
   subst hk0
   exact .inl ⟨rfl, hX, i, hik, he, by refine ⟨?_,?_,?_⟩<;>simp only [↓aH,aJ,rE,↓reduceIte,rA,p0,p1,p5]⟩
 rintro o ⟨F, inr⟩ X (⟨rfl, q0, hX, i, hik, he, p0, p1, p5⟩ | ⟨rfl, hX, hne, p4⟩)
 rotate_left
 ·simp only at p4
  simp only [↓aH,aJ,rE,↓reduceIte, rA, p4]
  rw [Aa hne]
  exact ⟨rfl, hX⟩
 simp only at q0
 subst q0
 rw [Bn (by omega), Bn (by omega)] at he
 rw [Ad he]
 try simp only [↓aH,aJ,rE,↓reduceIte, rA]
 refine cF ?_
 simp only [↓aH,aJ,rE,↓reduceIte, rA]
 refine bD ?_
 simp only [↓aH,aJ,rE,↓reduceIte, rA]
 exact hX
theorem zN {S : St} {a b : AV} {l m : List Int} (H : Has fns) (ha : bO .i64 S a l) (hb : bO .i64 S b m) (hl : l.length ≤ 10000000) : iM fns (.fn 19 [] []) [a, b] S fun r S' => r = .bool (decide (l = m)) ∧ Same S S' :=
 aEs H ha hb (by omega)
def zO (S S' : St) (v : AV) (l : List Int) : Prop := ∃ b, v = .sl b 0 l.length l.length false ∧ S.nx ≤ b ∧ b < S'.nx ∧ S'.h.get b = some (.cells (bB l) false 0)
theorem zO.is {S S' : St} {v : AV} {l : List Int} (h : zO S S' v l) : bO .i64 S' v l := by
 obtain ⟨b, rfl, h1, h2, h3⟩ := h
 exact uI h3 h2 rfl
theorem tB (n : Nat) : repeatL [AV.int .i64 0] n = bB (List.replicate n 0) := by rw [repeatL_one]; simp [bB]
theorem aEW {l m : List Int} (hl : l.length = m.length) (h : ∀ j, j < m.length → l.getD j 0 = m.getD j 0) : l = m := by
 refine En hl fun j j1 j2 => ?_
 have := h j j2
 rw [Ac, Ac, Ab j1, Ab j2] at this
 exact this
def aCH (S : St) (rb n : Nat) (f : Nat → Int) (P : Fr → Nat → Prop) (k : Nat) (A : bT) (X : St) : Prop := A.inr = false ∧ Same S X ∧ rb < X.nx ∧ ∃ (i : Nat) (l : List Int), i + k = n ∧ l.length = n ∧ (∀ j, j < i → l.getD j 0 = f j) ∧ X.h.get rb = some (.cells (bB l) false 0) ∧ P A.F i
theorem qE {S : St} {n : Nat} (H : Has fns) (hn : n ≤ 1000000) : iM fns (.fn 155 [] []) [.int .i64 (n : Int)] S fun r S' => zO S S' r (List.replicate n (-1)) ∧ Same S S' := by
 refine cV H.f155 (by simp) ?_
 simp only [↓aH,aJ,rE,↓reduceIte, rA]
 refine cF ?_
 simp only [↓aH,aJ,rE,↓reduceIte, rA]
 refine cF ?_
 simp only [↓aH,aJ,rE,↓reduceIte, rA]
 refine iO (qR (n := n) (by simp only [↓aH,aJ,rE,↓reduceIte, rA, aG]) (by simp only [↓aH,aJ,rE,↓reduceIte, rA, aG]) (by unfold room; omega) (by unfold room; omega)) ?_
 intro S1 s1 n1 c1
 rw [tB] at c1
 simp only [↓aH,aJ,rE,↓reduceIte, rA]
 refine aD (bN (Q := fun o A' X => o = .normal ∧ aCH S S.nx n (fun _ => -1) (fun F i => aC 3 F = .sl S.nx 0 n n false ∧ aC 8 F = .int .i64 (n : Int) ∧ aC 9 F = .int .i64 (i : Int)) 0 A' X) (aD (aP ?_)) ?_)
 ·have e0 : lW (.sl S.nx 0 n n false) = some (.int .i64 (n : Int)) := rfl
  simp only [↓aH,aJ,rE,↓reduceIte, rA, e0]
  refine aU (cI (aCH S S.nx n (fun _ => -1) (fun F i => aC 3 F = .sl S.nx 0 n n false ∧ aC 8 F = .int .i64 (n : Int) ∧ aC 9 F = .int .i64 (i : Int))) ?_ n _ _ ⟨rfl, s1, by omega, 0, _, by omega, Ap .., fun j hj => by omega, c1, by refine ⟨?_,?_,?_⟩<;>simp only [↓aH,aJ,rE,↓reduceIte,rA]⟩)
  rintro k ⟨F, inr⟩ X ⟨q0, hX, hb, i, l, hik, hl, hf, hc, p3, p8, p9⟩
  simp only at q0 p3 p8 p9
  subst q0
  refine cF ?_
  simp only [↓aH,aJ,rE,↓reduceIte, rA, p8, p9]
  by_cases hlt : i < n
  ·refine aD (aY (by simp only [↓aH,aJ,rE,↓reduceIte, rA, Ad (show (i : Int) < (n : Int) by omega)]) (aN ?_))
   try simp only [↓aH,aJ,rE,↓reduceIte, rA]
   have w1 : IntKind.i64.wrap ((i : Int) + 1) = ((i + 1 : Nat) : Int) := by rw [wrap_i64 (by omega) (by omega)]; omega
   have hia := fV (b := S.nx) (o := false) hlt
   refine aD (aU (aD (aP ?_)))
   simp only [↓aH,aJ,rE,↓reduceIte, rA, p9]
   refine aP ?_
   simp only [↓aH,aJ,rE,↓reduceIte, rA, p3, aG, hia]
   rw [show Int.negSucc 0 = (-1 : Int) from rfl]
   refine fX (fun call => by simp only [↓aH,aJ,rE,↓reduceIte, rA, dW, cT]; exact uA (S := X) hc (by rw [hl]; exact hlt)) ?_
   simp only [↓aH,aJ,rE,↓reduceIte, rA]
   refine aP ?_
   simp only [↓aH,aJ,rE,↓reduceIte, rA, p9, w1]
   refine ⟨k - 1, by omega, rfl, hX.put (Af _) _, hb, i + 1, l.set i (-1), by omega, by rw [Au]; exact hl, fun j hj => ?_, by simp only; rw [T.get_set, if_pos rfl], by refine ⟨?_,?_,?_⟩<;>simp only [↓aH,aJ,rE,↓reduceIte,rA,p3,p8]⟩
   rw [fS (by rw [hl]; exact hlt)]
   split
   ·rfl
   ·exact hf j (by omega)
  ·refine aD (aT (by simp only [↓aH,aJ,rE,↓reduceIte, rA, Aa (show ¬ (i : Int) < (n : Int) by omega)]) (cC ?_))
   simp only [↓aH,aJ,rE,↓reduceIte, rA]
   have hk0 : k = 0 := by omega
   subst hk0
   exact ⟨rfl, hX, hb, i, l, hik, hl, hf, hc, by refine ⟨?_,?_,?_⟩<;>simp only [↓aH,aJ,rE,↓reduceIte,rA,p3,p8,p9]⟩
 rintro o ⟨F, inr⟩ X ⟨rfl, q0, hX, hb, i, l, hik, hl, hf, hc, p3, p8, p9⟩
 simp only at q0 p3
 subst q0
 have el : l = List.replicate n (-1) := aEW (by rw [hl, Ap]) fun j hj => by
  rw [Ap] at hj
  rw [hf j (by omega), Ac, Ca, if_pos hj]
  rfl
 subst el
 try simp only [↓aH,aJ,rE,↓reduceIte, rA]
 refine cF ?_
 simp only [↓aH,aJ,rE,↓reduceIte, rA, p3]
 refine bD ?_
 simp only [↓aH,aJ,rE,↓reduceIte, rA]
 exact ⟨⟨S.nx, by rw [Ap], Af _, hb, hc⟩, hX⟩
def jG (a b : List Int) : List Int := a.map fun x => b.getD x.toNat 0
def zQ (a : List Int) (n : Nat) : Prop := ∀ x ∈ a, 0 ≤ x ∧ x < n
theorem qB {a b : List Int} {i : Nat} (hi : i < a.length) : (jG a b).getD i 0 = b.getD (a.getD i 0).toNat 0 := by
 unfold jG
 rw [Ac, Bc, Ab hi, Ac (l := a), Ab hi]
 rfl
theorem aHd {S : St} {av bv : AV} {a b : List Int} (H : Has fns) (ha : bO .i64 S av a) (hb : bO .i64 S bv b) (hl : a.length ≤ 1000000) (hin : zQ a b.length) : iM fns (.fn 70 [] []) [av, bv] S fun r S' => zO S S' r (jG a b) ∧ Same S S' := by
 refine cV H.f70 (by simp) ?_
 simp only [↓aH,aJ,rE,↓reduceIte, rA]
 refine cF ?_
 simp only [↓aH,aJ,rE,↓reduceIte, rA]
 refine cF ?_
 simp only [↓aH,aJ,rE,↓reduceIte, rA, ha.len, Aj]
 refine iO (qR (n := a.length) (by simp only [↓aH,aJ,rE,↓reduceIte, rA, aG]) (by simp only [↓aH,aJ,rE,↓reduceIte, rA, aG]) (by unfold room; omega) (by unfold room; omega)) ?_
 intro S1 s1 n1 c1
 rw [tB] at c1
 simp only [↓aH,aJ,rE,↓reduceIte, rA]
 refine aD (bN (Q := fun o A' X => o = .normal ∧ aCH S S.nx a.length (fun j => b.getD (a.getD j 0).toNat 0) (fun F i => aC 1 F = bv ∧ aC 5 F = .sl S.nx 0 a.length a.length false ∧ aC 11 F = av ∧ aC 12 F = .int .i64 ((a.length : Nat) : Int) ∧ aC 13 F = .int .i64 (i : Int)) 0 A' X) (aD (aP ?_)) ?_)
 ·simp only [↓aH,aJ,rE,↓reduceIte, rA, ha.len, Aj]
  refine aU (cI (aCH S S.nx a.length (fun j => b.getD (a.getD j 0).toNat 0) (fun F i => aC 1 F = bv ∧ aC 5 F = .sl S.nx 0 a.length a.length false ∧ aC 11 F = av ∧ aC 12 F = .int .i64 ((a.length : Nat) : Int) ∧ aC 13 F = .int .i64 (i : Int))) ?_ a.length _ _ ⟨rfl, s1, by omega, 0, _, by omega, Ap .., fun j hj => by omega, c1, by refine ⟨?_,?_,?_,?_,?_⟩<;>simp only [↓aH,aJ,rE,↓reduceIte,rA]⟩)
  rintro k ⟨F, inr⟩ X ⟨q0, hX, hbX, i, l, hik, hl', hf, hc, p1, p5, p11, p12, p13⟩
  simp only at q0 p1 p5 p11 p12 p13
  subst q0
  refine cF ?_
  simp only [↓aH,aJ,rE,↓reduceIte, rA, p12, p13]
  by_cases hlt : i < a.length
  ·refine aD (aY (by simp only [↓aH,aJ,rE,↓reduceIte, rA, Ad (show (i : Int) < ((a.length : Nat) : Int) by omega)]) (aN ?_))
   try simp only [↓aH,aJ,rE,↓reduceIte, rA]
   have w1 : IntKind.i64.wrap ((i : Int) + 1) = ((i + 1 : Nat) : Int) := by rw [wrap_i64 (by omega) (by omega)]; omega
   have hia := fV (b := S.nx) (o := false) hlt
   have ia := (ha.same hX).iaddr hlt
   have la := (ha.same hX).ld hlt
   have hmem : a.getD i 0 ∈ a := by rw [Ac, Ab hlt]; exact Bt hlt
   obtain ⟨x0, x1⟩ := hin _ hmem
   have hfi : (fun j => b.getD (a.getD j 0).toNat 0) i = b.getD (a.getD i 0).toNat 0 := rfl
   generalize hxx : a.getD i 0 = x at *
   obtain ⟨m, rfl⟩ : ∃ m : Nat, x = (m : Int) := ⟨x.toNat, by omega⟩
   have hm : m < b.length := by omega
   have ib := (hb.same hX).iaddr hm
   have lb := (hb.same hX).ld hm
   refine aD (aU (aD (aP ?_)))
   simp only [↓aH,aJ,rE,↓reduceIte, rA, p11, p13, aG, ia, la]
   refine aP ?_
   simp only [↓aH,aJ,rE,↓reduceIte, rA, p1, p5, aG, hia, ib, lb]
   refine fX (fun call => by simp only [↓aH,aJ,rE,↓reduceIte, rA, dW, cT]; exact uA (S := X) hc (by rw [hl']; exact hlt)) ?_
   simp only [↓aH,aJ,rE,↓reduceIte, rA]
   refine aP ?_
   simp only [↓aH,aJ,rE,↓reduceIte, rA, p13, w1]
   refine ⟨k - 1, by omega, rfl, hX.put (Af _) _, hbX, i + 1, l.set i (b.getD m 0), by omega, by rw [Au]; exact hl', fun j hj => ?_, by simp only; rw [T.get_set, if_pos rfl], by refine ⟨?_,?_,?_,?_,?_⟩<;>simp only [↓aH,aJ,rE,↓reduceIte,rA,p1,p5,p11,p12]⟩
   rw [fS (by rw [hl']; exact hlt)]
   split
   ·rename_i e; rw [e, hfi]; rfl
   ·exact hf j (by omega)
  ·refine aD (aT (by simp only [↓aH,aJ,rE,↓reduceIte, rA, Aa (show ¬ (i : Int) < ((a.length : Nat) : Int) by omega)]) (cC ?_))
   simp only [↓aH,aJ,rE,↓reduceIte, rA]
   have hk0 : k = 0 := by omega
   subst hk0
   exact ⟨rfl, hX, hbX, i, l, hik, hl', hf, hc, by refine ⟨?_,?_,?_,?_,?_⟩<;>simp only [↓aH,aJ,rE,↓reduceIte,rA,p1,p5,p11,p12,p13]⟩
 rintro o ⟨F, inr⟩ X ⟨rfl, q0, hX, hbX, i, l, hik, hl', hf, hc, p1, p5, p11, p12, p13⟩
 simp only at q0 p5
 subst q0
 have ep : (jG a b).length = a.length := by simp [jG]
 have el : l = jG a b := aEW (by rw [hl', ep]) fun j hj => by
  rw [ep] at hj
  rw [hf j (by omega), qB hj]
 subst el
 try simp only [↓aH,aJ,rE,↓reduceIte, rA]
 refine cF ?_
 simp only [↓aH,aJ,rE,↓reduceIte, rA, p5]
 refine bD ?_
 simp only [↓aH,aJ,rE,↓reduceIte, rA]
 exact ⟨⟨S.nx, by rw [ep], Af _, hbX, hc⟩, hX⟩
def oM : List Int → Nat → Int → Int
 | [], _, _ => -1
 | x :: l, s, c => if x = c then (s : Int) else oM l (s + 1) c
theorem mA {c : Int} : ∀ {l : List Int} {s : Nat}, (oM l s c = -1 ∧ c ∉ l) ∨ ∃ k, oM l s c = ((s + k : Nat) : Int) ∧ l[k]? = some c ∧ ∀ j, j < k → l[j]? ≠ some c
 | [], s => .inl ⟨rfl, by simp⟩
 | x :: l, s => by
  simp only [oM]
  by_cases h : x = c
  ·rw [if_pos h]
   exact .inr ⟨0, rfl, by rw [h]; rfl, fun j hj => by omega⟩
  ·rw [if_neg h]
   rcases mA (c := c) (l := l) (s := s + 1) with ⟨h1, h2⟩ | ⟨k, h1, h2, h3⟩
   ·exact .inl ⟨h1, by rw [Br]; rintro (e | e); exact h e.symm; exact h2 e⟩
   ·refine .inr ⟨k + 1, by rw [h1]; congr 1; omega, h2, fun j hj => ?_⟩
    cases j with
    | zero => simp only [List.getElem?_cons_zero, ne_eq, Ar]; exact h
    | succ j => rw [Ch]; exact h3 j (by omega)
def aLn (h : T AB) (K : Nat) (l : jO) : Prop := lN l.v (gR l.q l.F h) = true ∧ l.i < K ∧ Nat.testBit l.mask K = false
theorem vK {h : T AB} {base K : Nat} {rest : List AO} {Q : DS → Prop} : ∀ {pre : List AO} {i : Nat} {F : Fr} {S : St} {ls : List jO}, S.h = h → i + pre.length = K → (∀ o ∈ pre, Nat.testBit o.mask K = false) → (∀ l ∈ ls, aLn h K l) →
  mD pre F h (fun F' => ∀ ls', (∀ l ∈ ls', aLn h K l) → uN fns rest K base ⟨F', S, [], [], ls'⟩ Q) → uN fns (pre ++ rest) i base ⟨F, S, [], [], ls⟩ Q
 | [], i, F, S, ls, h1, h2, _, h4, hr => by
  simp only [Bz, Bj] at h2
  subst h2
  exact hr ls h4
 | ⟨d, .q q, g, m⟩ :: l, i, F, S, ls, h1, h2, h3, h4, hr => by
  simp only [mD] at hr
  have h2' : i + 1 + l.length = K := by rw [Az] at h2; omega
  have h3' : ∀ o ∈ l, Nat.testBit o.mask K = false := fun o ho => h3 o (Bg _ ho)
  have hm : Nat.testBit m K = false := h3 _ (Bm ..)
  have go : ∀ (_ : kD (gR q F h) fun v => (dH q = true → cO v v = true) ∧ mD l (cJ d F v) h (fun F' => ∀ ls', (∀ l ∈ ls', aLn h K l) → uN fns rest K base ⟨F', S, [], [], ls'⟩ Q)), uN fns (⟨d, .q q, none, m⟩ :: (l ++ rest)) i base ⟨F, S, [], [], ls⟩ Q := by
   rintro ⟨v, hv, hs, hr⟩
   rw [iU]
   subst h1
   refine ⟨v, hv, vK rfl h2' h3' ?_ hr⟩
   cases hq : dH q with
   | false => exact h4
   | true =>
    rw [aF]
    intro l' hl'
    rcases Br.1 hl' with rfl | hl'
    ·refine ⟨?_, by show i < K; omega, hm⟩
     show lN v (gR q F S.h) = true
     rw [hv, uP]
     exact hs hq
    ·exact h4 _ hl'
  cases g with
  | none => exact go (by rw [if_pos (show eH none F = true from rfl)] at hr; exact hr)
  | some g =>
   obtain ⟨s, b⟩ := g
   by_cases hw : eH (some (s, b)) F = true
   ·rw [if_pos hw] at hr
    obtain ⟨n, D', e1, e2⟩ := go hr
    refine ⟨n, D', ?_, e2⟩
    have : oK ⟨d, .q q, some (s, b), m⟩ i base (ev fns n).call ⟨F, S, [], [], ls⟩ = oK ⟨d, .q q, none, m⟩ i base (ev fns n).call ⟨F, S, [], [], ls⟩ := by
     show bQ (eH (some (s, b)) F) _ _ = bQ true _ _
     rw [hw]; rfl
    show bE (oK ⟨d, .q q, some (s, b), m⟩ i base (ev fns n).call ⟨F, S, [], [], ls⟩) _ = _
    rw [this]; exact e1
   ·rw [if_neg hw] at hr
    obtain ⟨n, D', e1, e2⟩ := vK (i := i + 1) (F := cJ d F .undef) (ls := ls) h1 h2' h3' h4 hr
    refine ⟨n, D', ?_, e2⟩
    have : oK ⟨d, .q q, some (s, b), m⟩ i base (ev fns n).call ⟨F, S, [], [], ls⟩ = some ⟨cJ d F .undef, S, [], [], ls⟩ := by
     show bQ (eH (some (s, b)) F) _ _ = _
     rw [show eH (some (s, b)) F = false by simpa using hw]; rfl
    show bE (oK ⟨d, .q q, some (s, b), m⟩ i base (ev fns n).call ⟨F, S, [], [], ls⟩) _ = _
    rw [this]; exact e1
 | ⟨d, .a a, g, m⟩ :: l, i, F, S, ls, h1, h2, h3, h4, hr => by cases hr
 | ⟨d, .x a, g, m⟩ :: l, i, F, S, ls, h1, h2, h3, h4, hr => by cases hr
theorem aKF {ops pre : List AO} {K m n : Nat} {x v : cK} {A : bT} {S : St} {Q : Out → bT → St → Prop} (he : ops = pre ++ [⟨none, .x (.st n x v), none, m⟩]) (hK : pre.length = K) (h3 : ∀ o ∈ pre, Nat.testBit o.mask K = false) (hm : ∀ i, i < K → Nat.testBit m i = true)
  (h : mD pre A.F S.h fun F' => ∃ S1, bE (v.val F').cells (fun cs => nQ (x.val F') n cs ⟨S.h, S.nx + (K + 1)⟩) = some (.undef, S1) ∧ Q .normal ⟨F', A.inr⟩ S1) : kH fns (.drw ops) A S Q := by
 subst he
 have hlen : (pre ++ [(⟨none, .x (.st n x v), none, m⟩ : AO)]).length = K + 1 := by simp [hK]
 refine qD ?_
 rw [hlen]
 refine vK (h := S.h) (K := K) (pre := pre) (i := 0) rfl (by omega) h3 (fun l hl => by cases hl) ?_
 have mono : ∀ {P P' : Fr → Prop}, (∀ F, P F → P' F) → ∀ (l : List AO) (F : Fr), mD l F S.h P → mD l F S.h P' := fun {P P'} hP l => by
  induction l with
  | nil => intro F h; exact hP F h
  | cons o l ih =>
   intro F h
   obtain ⟨d, op, g, mm⟩ := o
   cases op with
   | q q =>
    simp only [mD] at h ⊢
    split at h
    ·rename_i hw
     rw [if_pos hw]
     obtain ⟨w, hw1, hw2, hw3⟩ := h
     exact ⟨w, hw1, hw2, ih _ hw3⟩
    ·rename_i hw
     rw [if_neg hw]
     exact ih _ h
   | a a => cases h
   | x a => cases h
 refine mono ?_ pre A.F h
 rintro F' ⟨S1, e1, hQ⟩ ls hls
 refine kE (v := .undef) (S1 := S1) rfl (fun call => by rw [dW]; exact e1) ?_
 rw [jR]
 refine ⟨?_, ?_⟩
 ·simp only [Cz, List.reverse_nil, Bw]
  refine kS fun l hl => ?_
  obtain ⟨h1, h2, h4⟩ := hls l hl
  unfold eM
  rw [h4, aL, h1, aF, hm _ h2, aF]
 ·exact hQ
def jC (T : List cE) (j : Nat) : Option Int := (T[j]?).map (·.1)
def CF (nx : Nat → List Int) (a : Nat) (T : List cE) : Prop := ∀ j, j < T.length → ∀ c ∈ nx (a + j), ((a + j : Nat) : Int) < c ∧ c < ((a + T.length : Nat) : Int) ∧ jC T (c.toNat - a) = some ((a + j : Nat) : Int)
def PF (nx : Nat → List Int) (a : Nat) (T : List cE) (j : Nat) : Prop := ∃ q, q < j ∧ jC T j = some ((a + q : Nat) : Int) ∧ ((a + j : Nat) : Int) ∈ nx (a + q)
def aHf (nx : Nat → List Int) (a : Nat) (T : List cE) : Prop := ∀ j, j < T.length → (nx (a + j)).Pairwise (· < ·)
structure WF (nx : Nat → List Int) (a : Nat) (p : Int) (T : List cE) : Prop where
 pos : 0 < T.length
 root : jC T 0 = some p
 cf : CF nx a T
 pf : ∀ j, 0 < j → j < T.length → PF nx a T j
 inc : aHf nx a T
structure KF (nx : Nat → List Int) (r : Nat) (p : Int) (l : List Int) (L : List cE) : Prop where
 cf : CF nx r L
 kid : ∀ c ∈ l, ((r : Nat) : Int) ≤ c ∧ c < ((r + L.length : Nat) : Int) ∧ jC L (c.toNat - r) = some p
 pf : ∀ j, j < L.length → (jC L j = some p ∧ ((r + j : Nat) : Int) ∈ l) ∨ PF nx r L j
 inc : aHf nx r L
 up : l.Pairwise (· < ·)
theorem qT {L1 L2 : List cE} {j : Nat} (h : j < L1.length) : jC (L1 ++ L2) j = jC L1 j := by unfold jC; rw [An h]
theorem oI {L1 L2 : List cE} {j : Nat} (h : L1.length ≤ j) : jC (L1 ++ L2) j = jC L2 (j - L1.length) := by unfold jC; rw [Ao h]
theorem CF.append {nx : Nat → List Int} {r : Nat} {L1 L2 : List cE} (h1 : CF nx r L1) (h2 : CF nx (r + L1.length) L2) : CF nx r (L1 ++ L2) := fun j hj c hc => by
 rw [Ah] at hj ⊢
 by_cases h : j < L1.length
 ·obtain ⟨a, b, d⟩ := h1 j h c hc
  exact ⟨a, by omega, by rw [qT (by omega)]; exact d⟩
 ·have e : r + j = r + L1.length + (j - L1.length) := by omega
  rw [e] at hc
  obtain ⟨a, b, d⟩ := h2 (j - L1.length) (by omega) c hc
  refine ⟨by omega, by omega, ?_⟩
  rw [oI (by omega), show c.toNat - r - L1.length = c.toNat - (r + L1.length) by omega, d, e]
theorem PF.left {nx : Nat → List Int} {r j : Nat} {L1 L2 : List cE} (h : PF nx r L1 j) (hj : j < L1.length) : PF nx r (L1 ++ L2) j := by
 obtain ⟨q, h1, h2, h3⟩ := h
 exact ⟨q, h1, by rw [qT hj]; exact h2, h3⟩
theorem PF.right {nx : Nat → List Int} {r j : Nat} {L1 L2 : List cE} (h : PF nx (r + L1.length) L2 (j - L1.length)) (hj : L1.length ≤ j) : PF nx r (L1 ++ L2) j := by
 obtain ⟨q, h1, h2, h3⟩ := h
 refine ⟨L1.length + q, by omega, ?_, ?_⟩
 ·rw [oI hj, h2, show r + L1.length + q = r + (L1.length + q) by omega]
 ·rw [show r + (L1.length + q) = r + L1.length + q by omega, show r + j = r + L1.length + (j - L1.length) by omega]
  exact h3
theorem aHf.append {nx : Nat → List Int} {r : Nat} {L1 L2 : List cE} (h1 : aHf nx r L1) (h2 : aHf nx (r + L1.length) L2) : aHf nx r (L1 ++ L2) := fun j hj => by
 rw [Ah] at hj
 by_cases h : j < L1.length
 ·exact h1 j h
 ·rw [show r + j = r + L1.length + (j - L1.length) by omega]
  exact h2 (j - L1.length) (by omega)
theorem aBi {rec : Nat → Option (List cE)} {nx : Nat → List Int} {p : Int} (hr : ∀ r L, rec r = some L → WF nx r p L) : ∀ {l : List Int} {r : Nat} {L : List cE}, fI rec l r = some L → KF nx r p l L
 | [], r, L, h => by
  simp only [fI, Ar] at h
  subst h
  exact ⟨fun j hj => by simp at hj, fun c hc => by simp at hc, fun j hj => by simp at hj, fun j hj => by simp at hj, .nil⟩
 | c :: l, r, L, h => by
  simp only [fI] at h
  split at h
  ·rename_i hc
   obtain ⟨L1, h1, h2⟩ := Cc.1 h
   obtain ⟨L2, h3, rfl⟩ := Aw.1 h2
   have w := hr r L1 h1
   have k := aBi hr h3
   have hp := w.pos
   refine ⟨w.cf.append k.cf, fun c' hc' => ?_, fun j hj => ?_, w.inc.append k.inc, ?_⟩
   ·rw [Ah]
    rcases Br.1 hc' with rfl | hc'
    ·rw [hc]
     refine ⟨by omega, by omega, ?_⟩
     rw [show ((r : Int)).toNat - r = 0 by omega, qT hp]
     exact w.root
    ·obtain ⟨a, b, d⟩ := k.kid c' hc'
     refine ⟨by omega, by omega, ?_⟩
     rw [oI (by omega), show c'.toNat - r - L1.length = c'.toNat - (r + L1.length) by omega]
     exact d
   ·rw [Ah] at hj
    by_cases h : j < L1.length
    ·by_cases j0 : j = 0
     ·subst j0
      exact .inl ⟨by rw [qT h]; exact w.root, by rw [Bj, hc]; exact Bm ..⟩
     ·exact .inr ((w.pf j (by omega) h).left h)
    ·rcases k.pf (j - L1.length) (by omega) with ⟨h4, h5⟩ | h4
     ·exact .inl ⟨by rw [oI (by omega)]; exact h4, Bg _ (by rw [show r + j = r + L1.length + (j - L1.length) by omega]; exact h5)⟩
     ·exact .inr (PF.right h4 (by omega))
   ·refine List.pairwise_cons.2 ⟨fun c' hc' => ?_, k.up⟩
    have := (k.kid c' hc').1
    omega
  ·cases h
theorem kR {N : Nat} {nx : Nat → List Int} : ∀ {f at_ : Nat} {p d : Int} {T : List cE}, eS N nx f at_ p d = some T → WF nx at_ p T
 | 0, at_, p, d, T, h => by cases h
 | f + 1, at_, p, d, T, h => by
  simp only [eS] at h
  split at h
  ·obtain ⟨L, h1, rfl⟩ := Aw.1 h
   have k := aBi (p := (at_ : Int)) (fun r L hr => kR hr) h1
   have ps : ∀ j, jC ((p, d, ((at_ + L.length : Nat) : Int)) :: L) (j + 1) = jC L j := fun j => by unfold jC; rw [Ch]
   refine ⟨by simp, rfl, fun j hj c hc => ?_, fun j j0 hj => ?_, fun j hj => ?_⟩
   ·rw [Az] at hj ⊢
    cases j with
    | zero =>
     rw [Bj] at hc ⊢
     obtain ⟨a, b, e⟩ := k.kid c hc
     refine ⟨by omega, by omega, ?_⟩
     rw [show c.toNat - at_ = (c.toNat - (at_ + 1)) + 1 by omega, ps]
     exact e
    | succ j =>
     rw [show at_ + (j + 1) = at_ + 1 + j by omega] at hc ⊢
     obtain ⟨a, b, e⟩ := k.cf j (by omega) c hc
     refine ⟨by omega, by omega, ?_⟩
     rw [show c.toNat - at_ = (c.toNat - (at_ + 1)) + 1 by omega, ps]
     exact e
   ·rw [Az] at hj
    cases j with
    | zero => omega
    | succ j =>
     rcases k.pf j (by omega) with ⟨a, b⟩ | ⟨q, a, b, e⟩
     ·exact ⟨0, by omega, by rw [ps, a]; rfl, by rw [Bj, show at_ + (j + 1) = at_ + 1 + j by omega]; exact b⟩
     ·refine ⟨q + 1, by omega, ?_, ?_⟩
      ·rw [ps, b, show at_ + 1 + q = at_ + (q + 1) by omega]
      ·rw [show at_ + (q + 1) = at_ + 1 + q by omega, show at_ + (j + 1) = at_ + 1 + j by omega]
       exact e
   ·rw [Az] at hj
    cases j with
    | zero => exact k.up
    | succ j =>
     rw [show at_ + (j + 1) = at_ + 1 + j by omega]
     exact k.inc j (by omega)
  ·cases h
theorem mL {ops pre : List AO} {K m n : Nat} {x v : cK} {A : bT} {S : St} {Q : Out → bT → St → Prop} (he : ops = pre ++ [⟨none, .x (.st n x v), none, m⟩]) (hK : pre.length = K) (h3 : (pre.all fun o => !Nat.testBit o.mask K) = true) (hm : ((List.range K).all fun i => Nat.testBit m i) = true)
  (h : mD pre A.F S.h fun F' => ∃ S1, bE (v.val F').cells (fun cs => nQ (x.val F') n cs ⟨S.h, S.nx + (K + 1)⟩) = some (.undef, S1) ∧ Q .normal ⟨F', A.inr⟩ S1) : kH fns (.drw ops) A S Q := by
 refine aKF he hK (fun o ho => ?_) (fun i hi => ?_) h
 ·have := Dm.1 h3 o ho
  simpa using this
 ·exact Dm.1 hm i (List.mem_range.2 hi)
theorem aGO {W : Nat → Prop} {h0 : T AB} {base i : Nat} {l : List AO} {F : Fr} {S : St} {ps : List gL} {last : Option Nat} {Q : Fr → St → List gL → Prop} {d : Option Nat} {t : Nat} {x : cK} {cs : List AV} (hx : (x.val F).cells = some cs)
  (hr : fJ fns W h0 base l (i + 1) (cJ d F (.ptr (base + i) 0)) S (⟨i, base + i, .cells cs false 0⟩ :: ps) last Q) : aEx fns W h0 base (rO (.box t x) F (base + i)) d l i F S ps last Q := by
 rw [aGp, hx, aE, nH]
 exact hr
theorem bO.cells {k : IntKind} {S : St} {v : AV} {l : List Int} (h : bO k S v l) : v.cells = some [v] := by
 rcases h with ⟨_, rfl | rfl⟩ | ⟨b, off, cap, o, cs, rfl, _⟩ <;> rfl
def aAc : List Int → Nat → List Int → List Int
 | [], _, r => r
 | c :: l, s, r => aAc l (s + 1) (r.set c.toNat (s : Int))
def aBR (g : bF) : Nat → List Int → List Int
 | 0, r => r
 | i + 1, r => aBR g i (aAc (dN g i) 0 r)
def kC (g : bF) : List Int := aBR g g.nodes.length (List.replicate g.nodes.length 0)
structure iE (S : St) (wb plb szb : Nat) (pv nv iv : AV) (g : bF) (R Z : List Int) : Prop where
 w : pF S wb g.players nv iv pv (.sl plb 0 g.nodes.length g.nodes.length false) (.sl szb 0 g.nodes.length g.nodes.length false)
 gp : S.h.get plb = some (.cells (bB R) false 0)
 gz : S.h.get szb = some (.cells (bB Z) false 0)
 lp : R.length = g.nodes.length
 lz : Z.length = g.nodes.length
 bp : plb < S.nx
 bz : szb < S.nx
theorem iE.setZ {X : St} {wb plb szb n : Nat} {pv nv iv : AV} {g : bF} {R Z Z' : List Int} (h : iE X wb plb szb pv nv iv g R Z) (n1 : wb ≠ szb) (n2 : plb ≠ szb) (hn : X.nx ≤ n) (hZ : Z'.length = g.nodes.length) : iE ⟨X.h.set szb (some (.cells (bB Z') false 0)), n⟩ wb plb szb pv nv iv g R Z' :=
 ⟨⟨by simp only; rw [T.get_set, if_neg n1]; exact h.w.1, Ae h.w.2 hn⟩, by simp only; rw [T.get_set, if_neg n2]; exact h.gp, by simp only; rw [T.get_set, if_pos rfl], h.lp, hZ, Ae h.bp hn, Ae h.bz hn⟩
theorem iE.setP {X : St} {wb plb szb n : Nat} {pv nv iv : AV} {g : bF} {R R' Z : List Int} (h : iE X wb plb szb pv nv iv g R Z) (n1 : wb ≠ plb) (n2 : plb ≠ szb) (hn : X.nx ≤ n) (hR : R'.length = g.nodes.length) : iE ⟨X.h.set plb (some (.cells (bB R') false 0)), n⟩ wb plb szb pv nv iv g R' Z :=
 ⟨⟨by simp only; rw [T.get_set, if_neg n1]; exact h.w.1, Ae h.w.2 hn⟩, by simp only; rw [T.get_set, if_pos rfl], by simp only; rw [T.get_set, if_neg (Cr n2)]; exact h.gz, hR, h.lz, Ae h.bp hn, Ae h.bz hn⟩
theorem nR.put {plb szb : Nat} {S X : St} {n b : Nat} {v : Option AB} (h : nR plb szb szb S X) (hb : b = plb ∨ b = szb) (hn : X.nx ≤ n) : nR plb szb szb S ⟨X.h.set b v, n⟩ := ⟨Al h.1 hn, fun c hc h1 h2 h3 => by
 simp only
 rw [T.get_set, if_neg (by rcases hb with rfl | rfl <;> assumption)]
 exact h.2 c hc h1 h2 h3⟩
theorem aG2 {P : Ev.T AB → Prop} {h : Ev.T AB} {b1 b2 b3 : Nat} {c1 z : Option AB} (n1 : b1 ≠ b2) (n2 : b1 ≠ b3) (n3 : b2 ≠ b3) (H : ∀ h' : Ev.T AB, h'.get b1 = c1 → h'.get b2 = z → h'.get b3 = z → (∀ c, c ≠ b1 → c ≠ b2 → c ≠ b3 → h'.get c = h.get c) → P h') : P (((h.set b1 c1).set b2 z).set b3 z) := by
 refine H _ ?_ ?_ ?_ fun c h1 h2 h3 => ?_
 ·rw [T.get_set, if_neg n2, T.get_set, if_neg n1, T.get_set, if_pos rfl]
 ·rw [T.get_set, if_neg n3, T.get_set, if_pos rfl]
 ·rw [T.get_set, if_pos rfl]
 ·rw [T.get_set, if_neg h3, T.get_set, if_neg h2, T.get_set, if_neg h1]
theorem aGj {hi : Int} : ∀ {l : List Int} {lo : Int}, l.Pairwise (· < ·) → (∀ c ∈ l, lo ≤ c ∧ c < hi) → l.length ≤ (hi - lo).toNat
 | [], lo, _, _ => by simp
 | c :: l, lo, h, hb => by
  obtain ⟨h1, h2⟩ := List.pairwise_cons.1 h
  have hc := hb c (Bm ..)
  have := aGj (lo := c + 1) h2 fun c' hc' => ⟨by have := h1 c' hc'; omega, (hb c' (Bg _ hc')).2⟩
  rw [Az]
  omega
noncomputable def aLc : List AO := [mt 47 7,
om 48 1 (.nilchk (.t 47)),
om 49 3 (.faddr 5 (.t 48)),
om 50 7 (ld 49),
mt 51 4,
mt 52 8,
om 53 48 (.iaddr (.slice 1) (.t 51) (.t 52)),
om 54 112 (ld 53),
om 55 255 (.iaddr (.slice 1) (.t 50) (.t 54)),
om 56 511 (ld 55),
mt 57 7,
om 58 1024 (.nilchk (.t 57)),
om 59 3072 (.faddr 5 (.t 58)),
om 60 7168 (ld 59),
mt 61 8,
om 62 31744 (.iaddr (.slice 1) (.t 60) (.t 61)),
om 63 64512 (ld 62),
om 64 131071 (bi .add (.t 56) (.t 63)),
om 65 262143 (.iaddr (.slice 1) (.t 50) (.t 54))]
def szS (T : List cE) (i : Nat) (Z : List Int) : List Int := if 0 < i then (Z.set i (IntKind.i64.wrap (Z.getD i 0 + 1))).set ((T.map fun t : cE => t.1).getD i 0).toNat (IntKind.i64.wrap ((Z.set i (IntKind.i64.wrap (Z.getD i 0 + 1))).getD ((T.map fun t : cE => t.1).getD i 0).toNat 0 + (Z.set i (IntKind.i64.wrap (Z.getD i 0 + 1))).getD i 0)) else Z.set i (IntKind.i64.wrap (Z.getD i 0 + 1))
def szG (T : List cE) : Nat → List Int → List Int
 | 0, Z => Z
 | i + 1, Z => szG T i (szS T i Z)
def szL (T : List cE) (n : Nat) : List Int := szG T n (List.replicate n 0)
def aMy (Z0 : St) (gb wb plb szb : Nat) (pv nv iv : AV) (g : bF) (T : List cE) (k : Nat) (A : bT) (X : St) : Prop := A.inr = false ∧ nR plb szb szb Z0 X ∧ ∃ R Z, iE X wb plb szb pv nv iv g R Z ∧ k ≤ g.nodes.length ∧ aBR g k R = kC g ∧ szG T k Z = szL T g.nodes.length ∧ aC 1 A.F = .ptr gb 0 ∧ aC 4 A.F = pv ∧ aC 7 A.F = .ptr wb 0 ∧ aC 8 A.F = .int .i64 ((k : Int) - 1)
def aMx (Z0 : St) (gb wb plb szb : Nat) (pv nv iv a : AV) (g : bF) (i : Nat) (next Z : List Int) (k : Nat) (A : bT) (X : St) : Prop := A.inr = false ∧ nR plb szb szb Z0 X ∧ ∃ j R, iE X wb plb szb pv nv iv g R Z ∧ j + k = next.length ∧ aBR g i (aAc (next.drop j) j R) = kC g ∧ aC 1 A.F = .ptr gb 0 ∧ aC 4 A.F = pv ∧ aC 7 A.F = .ptr wb 0 ∧ aC 8 A.F = .int .i64 (i : Int) ∧ aC 71 A.F = a ∧ aC 72 A.F = .int .i64 ((next.length : Nat) : Int) ∧ aC 73 A.F = .int .i64 (j : Int)
def aLv (S S' : St) (p nv iv : AV) (g : bF) : Prop := ∃ (wb plb szb : Nat) (pv : AV) (T : List cE) (Z : List Int), p = .ptr wb 0 ∧ S.nx ≤ wb ∧ fK g = some T ∧ T.length = g.nodes.length ∧ bO .i64 S' pv (T.map (·.1)) ∧ iE S' wb plb szb pv nv iv g (kC g) Z
def aKK (S S' : St) (p nv iv : AV) (g : bF) : Prop := ∃ (wb plb szb : Nat) (pv : AV) (T : List cE), p = .ptr wb 0 ∧ S.nx ≤ wb ∧ fK g = some T ∧ T.length = g.nodes.length ∧ bO .i64 S' pv (T.map (·.1)) ∧ iE S' wb plb szb pv nv iv g (kC g) (szL T g.nodes.length)
theorem aBQ {S : St} {nv iv : AV} {g : bF} (H : Has fns) (hn : aM 6 cL S nv g.nodes) (hi : aM 2 dB S iv g.infos) (hln : g.nodes.length ≤ 100000) :
  iM fns (.fn 68 [] []) [.agg [.int .i64 g.players, nv, iv]] S fun r S' => Same S S' ∧ ∃ p, r = .tup [p, .int .i64 (dF g)] ∧ (dF g = 0 → aKK S S' p nv iv g) := by
 refine cV H.f68 (by simp) ?_
 simp only [↓sU,sD,rE,↓reduceIte,rA]
 refine cF ?_
 refine eQ (by simp only [↓sU,sD,rE,↓reduceIte,rA]; exact bK _) ?_
 intro S1 s1 n1 c1
 simp only [↓sU,sD,rE,↓reduceIte,rA]
 refine cF ?_
 simp only [↓sU,sD,rE,↓reduceIte,rA, jF c1]
 refine bJ ?_
 simp only [↓sU,sD,rE,↓reduceIte,rA]
 refine aW (aDy H (aM.same (E := cL) cB hn s1) (aM.same (E := dB) cQ hi s1) hln) ?_
 rintro _ X ⟨pv, rfl, hX, hP⟩
 simp only [↓sU,sD,rE,↓reduceIte,rA, vE, vD]
 refine jH ?_
 simp only [↓sU,sD,rE,↓reduceIte,rA]
 by_cases h0 : dF g = 0
 rotate_left
 ·refine aY (by simp only [↓sU,sD,rE,↓reduceIte,rA, Ad (show dF g ≠ 0 from h0)]) ?_
  refine cF ?_
  simp only [↓sU,sD,rE,↓reduceIte,rA]
  refine bD ?_
  simp only [↓sU,sD,rE,↓reduceIte,rA]
  exact ⟨s1.trans hX, _, rfl, fun h => absurd h h0⟩
 refine aT (by simp only [↓sU,sD,rE,↓reduceIte,rA, Aa (show ¬ dF g ≠ 0 from fun h => h h0)]) (aN ?_)
 try simp only [↓sU,sD,rE,↓reduceIte,rA]
 obtain ⟨T, hT, hTl, hpv⟩ := hP.2 h0
 have hwf := kR (show eS g.nodes.length (dN g) (g.nodes.length + 1) 0 (-1) 0 = some T from hT)
 have sX := s1.trans hX
 have lgX : S.nx < X.nx := by have := hX.1; omega
 have cX : X.h.get S.nx = some (.cells [.int .i64 g.players, nv, iv] false 0) := by rw [hX.2 _ (by omega)]; exact c1
 have sn := aM.self hn
 have si := aM.self hi
 have sg := aGE (dO .i64 g.players) sn si
 refine cF ?_
 simp only [↓sU,sD,rE,↓reduceIte,rA, aA, aB, kI cX, hn.len]
 refine aD (nJ (fun _ => False) ?_)
 intro X1 x1 hx1 hm1
 have hbd : ∀ (F : Fr) (h : Ev.T AB) (x y : AV), aC 22 F = .agg [.int .i64 g.players, nv, iv] → aC 23 F = pv → aC 25 F = x → aC 27 F = y → x.cells = some [x] → y.cells = some [y] → gR (.build [.int .i64 0, .nilsl, .nilsl, .nilsl, .nilsl, .nilsl] [(0, 3, .t 22), (3, 1, .t 23), (4, 1, .t 25), (5, 1, .t 27)]) F h = some (.agg [.int .i64 g.players, nv, iv, pv, x, y]) := fun F h x y h1 h2 h3 h4 h5 h6 => by
  show (bE (eF _ (dJ F [(0, 3, .t 22), (3, 1, .t 23), (4, 1, .t 25), (5, 1, .t 27)])) fun cs => some (AV.agg cs)) = _
  simp only [dJ, show (cK.t 22).val F = .agg [.int .i64 g.players, nv, iv] from h1, show (cK.t 23).val F = pv from h2, show (cK.t 25).val F = x from h3, show (cK.t 27).val F = y from h4, eF, bO.cells hpv, h5, h6, bK, aE]
  rfl
 simp only [↓sU,sD,rE,↓reduceIte,rA, aA, aO, aB, jF cX, lgX, Ax, sg]
 refine pZ (n := g.nodes.length) (by simp only [↓sU,sD,rE,↓reduceIte,rA, aG]) (by simp only [↓sU,sD,rE,↓reduceIte,rA, aG]) (by unfold room; omega) (by unfold room; omega) ?_
 simp only [↓sU,sD,rE,↓reduceIte,rA]
 refine pZ (n := g.nodes.length) (by simp only [↓sU,sD,rE,↓reduceIte,rA, aG]) (by simp only [↓sU,sD,rE,↓reduceIte,rA, aG]) (by unfold room; omega) (by unfold room; omega) ?_
 have hbd' := fun (F : Fr) (h : Ev.T AB) h1 h2 h3 h4 => hbd F h (.sl (X.nx + 3) 0 g.nodes.length g.nodes.length false) (.sl (X.nx + 5) 0 g.nodes.length g.nodes.length false) h1 h2 h3 h4 rfl rfl
 simp only [↓sU,sD,rE,↓reduceIte,rA, lO, hbd']
 refine aGO (cs := [.int .i64 g.players, nv, iv, pv, .sl (X.nx + 3) 0 g.nodes.length g.nodes.length false, .sl (X.nx + 5) 0 g.nodes.length g.nodes.length false]) (by simp only [↓sU,sD,rE,↓reduceIte,rA]; exact bK _) ?_
 simp only [↓sU,sD,rE,↓reduceIte,rA]
 rw [tB, kG (show Nat.testBit (2 ^ 9 - 1) 7 = true by decide), kG (show Nat.testBit (2 ^ 9 - 1) 5 = true by decide), kG (show Nat.testBit (2 ^ 9 - 1) 3 = true by decide), cA]
 refine aG2 (P := fun h' => kH fns _ _ ⟨h', X1.nx⟩ _) (by omega) (by omega) (by omega) ?_
 intro Zh gw g5 g3 gr
 have hm1 : X1.nx = X.nx + 9 := hm1
 have sZ : Same S ⟨Zh, X1.nx⟩ := ⟨by show S.nx ≤ X1.nx; have := sX.1; omega, fun c hc => by
  have := sX.1
  show Zh.get c = S.h.get c
  rw [gr c (by omega) (by omega) (by omega), hx1]
  exact sX.2 c hc⟩
 have cZ : Zh.get S.nx = some (.cells [.int .i64 g.players, nv, iv] false 0) := by
  rw [gr _ (by omega) (by omega) (by omega), hx1]
  exact cX
 have hB : iE ⟨Zh, X1.nx⟩ (X.nx + 7) (X.nx + 3) (X.nx + 5) pv nv iv g (List.replicate g.nodes.length 0) (List.replicate g.nodes.length 0) := ⟨⟨gw, by show X.nx + 7 < X1.nx; omega⟩, g3, g5, Ap .., Ap .., by show _ < X1.nx; omega, by show _ < X1.nx; omega⟩
 have sXZ : Same X ⟨Zh, X1.nx⟩ := ⟨by show X.nx ≤ X1.nx; omega, fun c hc => by
  show Zh.get c = X.h.get c
  rw [gr c (by omega) (by omega) (by omega), hx1]⟩
 have lwS := sX.1
 generalize hZ : (⟨Zh, X1.nx⟩ : St) = Z0 at *
 have cZ : Z0.h.get S.nx = some (.cells [.int .i64 g.players, nv, iv] false 0) := by rw [← hZ]; exact cZ
 have lgZ : S.nx < Z0.nx := Ae lgX sXZ.1
 have n73 : X.nx + 7 ≠ X.nx + 3 := by omega
 have n75 : X.nx + 7 ≠ X.nx + 5 := by omega
 have n35 : X.nx + 3 ≠ X.nx + 5 := by omega
 have ng3 : S.nx ≠ X.nx + 3 := by omega
 have ng5 : S.nx ≠ X.nx + 5 := by omega
 have l3 : S.nx ≤ X.nx + 3 := by omega
 have l5 : S.nx ≤ X.nx + 5 := by omega
 have l7 : S.nx ≤ X.nx + 7 := by omega
 have lx3 : X.nx ≤ X.nx + 3 := by omega
 have lx5 : X.nx ≤ X.nx + 5 := by omega
 generalize hb7 : X.nx + 7 = wb at *
 generalize hb3 : X.nx + 3 = plb at *
 generalize hb5 : X.nx + 5 = szb at *
 have hcr : ∀ i, i < g.nodes.length → ∀ c ∈ dN g i, (i : Int) < c ∧ c < ((g.nodes.length : Nat) : Int) := fun i hi c hc => by
  have := hwf.cf i (by omega) c (by rw [Am]; exact hc)
  omega
 have hpr : ∀ i, 0 < i → i < g.nodes.length → ∃ q : Nat, q < i ∧ (T.map (·.1)).getD i 0 = (q : Int) := fun i h1 h2 => by
  obtain ⟨q, a, b, _⟩ := hwf.pf i h1 (by omega)
  refine ⟨q, a, ?_⟩
  rw [Ac, Bc]
  unfold jC at b
  rw [b, Am]
  rfl
 have hN : g.nodes.length ≤ 100000 := hln
 have w0 : IntKind.i64.wrap (((g.nodes.length : Nat) : Int) - 1) = ((g.nodes.length : Nat) : Int) - 1 := wrap_i64 (by omega) (by omega)
 refine aD (bN (Q := fun o A' Y => o = .normal ∧ aMy Z0 S.nx wb plb szb pv nv iv g T 0 A' Y) (aD (aP ?_)) ?_)
 ·simp only [↓aH,aJ,rE,↓reduceIte, rA, w0]
  refine aU (cI (aMy Z0 S.nx wb plb szb pv nv iv g T) ?_ g.nodes.length _ _ ⟨rfl, nR.refl _ _ _ _, _, _, hB, Af _, rfl, rfl, by refine ⟨?_,?_,?_,?_⟩<;>simp only [↓aH,aJ,rE,↓reduceIte,rA]⟩)
  rintro k ⟨F, inr⟩ Y ⟨q0, hY, R, Z, hB, hkN, hpl, hsz, p1, p4, p7, p8⟩
  simp only at q0 p1 p4 p7 p8
  subst q0
  refine jH ?_
  simp only [↓aH,aJ,rE,↓reduceIte, rA, p8]
  by_cases hk : 0 < k
  ·refine aY (by simp only [↓aH,aJ,rE,↓reduceIte, rA, Ad (show (0 : Int) ≤ (k : Int) - 1 by omega)]) (aN ?_)
   try simp only [↓aH,aJ,rE,↓reduceIte, rA]
   obtain ⟨i, rfl⟩ : ∃ i, k = i + 1 := ⟨k - 1, by omega⟩
   have e1 : (((i + 1 : Nat) : Int)) - 1 = (i : Int) := by omega
   rw [e1] at p8
   have hlt : i < g.nodes.length := by omega
   have hia := fV (b := szb) (o := false) hlt
   have hltZ : i < Z.length := by rw [hB.lz]; exact hlt
   have hz0 := cS (p := i) (x := .int .i64 (Z.getD i 0)) hB.gz (by unfold bB; rw [Bc, Ab hltZ, Ac, Ab hltZ]; rfl)
   refine aD (aU (aD (aP ?_)))
   simp only [↓aH,aJ,rE,↓reduceIte, rA, p7, p8, aS, aR, aA, aB, gI hB.w.1, aG, hia, hz0]
   refine fX (fun call => by simp only [↓aH,aJ,rE,↓reduceIte, rA, dW, cT]; exact uA (S := Y) hB.gz hltZ) ?_
   simp only [↓aH,aJ,rE,↓reduceIte, rA]
   have hS : szS T i Z = if 0 < i then (Z.set i (IntKind.i64.wrap (Z.getD i 0 + 1))).set ((T.map fun t : cE => t.1).getD i 0).toNat (IntKind.i64.wrap ((Z.set i (IntKind.i64.wrap (Z.getD i 0 + 1))).getD ((T.map fun t : cE => t.1).getD i 0).toNat 0 + (Z.set i (IntKind.i64.wrap (Z.getD i 0 + 1))).getD i 0)) else Z.set i (IntKind.i64.wrap (Z.getD i 0 + 1)) := rfl
   have hsz : szG T i (szS T i Z) = szL T g.nodes.length := hsz
   generalize szS T i Z = ZS at hS hsz
   have hB1 := hB.setZ (Z' := Z.set i (IntKind.i64.wrap (Z.getD i 0 + 1))) n75 n35 (Af _) (by rw [Au]; exact hB.lz)
   have hY1 := hY.put (b := szb) (v := some (.cells (bB (Z.set i (IntKind.i64.wrap (Z.getD i 0 + 1)))) false 0)) (.inr rfl) (Af Y.nx)
   generalize (⟨Y.h.set szb (some (.cells (bB (Z.set i (IntKind.i64.wrap (Z.getD i 0 + 1)))) false 0)), Y.nx⟩ : St) = Y1 at *
   generalize Z.set i (IntKind.i64.wrap (Z.getD i 0 + 1)) = Z1 at *
   clear hz0 hltZ hB hY
   have sXY : Same X Y1 := hY1.same sXZ lx3 lx5 lx5
   have hltZ : i < Z1.length := by rw [hB1.lz]; exact hlt
   have ldz : ∀ j, j < g.nodes.length → fH (.ptr szb j) false 1 Y1.h = some (.int .i64 (Z1.getD j 0)) := fun j hj => cS hB1.gz (by
    have hj' : j < Z1.length := by rw [hB1.lz]; exact hj
    unfold bB
    rw [Bc, Ab hj', Ac, Ab hj']
    rfl)
   refine aD (bN (Q := fun o A' Y' => o = .normal ∧ A'.inr = false ∧ nR plb szb szb Z0 Y' ∧ iE Y' wb plb szb pv nv iv g R ZS ∧ aC 1 A'.F = .ptr S.nx 0 ∧ aC 4 A'.F = pv ∧ aC 7 A'.F = .ptr wb 0 ∧ aC 8 A'.F = .int .i64 (i : Int)) (aD (aP ?_)) ?_)
   ·simp only [↓aH,aJ,rE,↓reduceIte, rA, p8]
    by_cases hi0 : 0 < i
    ·refine aY (by simp only [↓aH,aJ,rE,↓reduceIte, rA, Ad (show (0 : Int) < (i : Int) by omega)]) ?_
     obtain ⟨q, hq, hqv⟩ := hpr i hi0 hlt
     have hltP : i < (T.map (·.1)).length := by rw [Av]; omega
     have iap := (hpv.same sXY).iaddr hltP
     have lap := (hpv.same sXY).ld hltP
     rw [hqv] at lap
     have hiq := fV (b := szb) (N := g.nodes.length) (o := false) (show q < g.nodes.length by omega)
     have lq := ldz q (by omega)
     have li := ldz i hlt
     rw [if_pos hi0, hqv, Ba] at hS
     subst hS
     refine mL (pre := aLc) (K := 19) (m := 524287) (n := 1) (x := .t 65) (v := .t 64) rfl rfl rfl rfl ?_
     unfold aLc
     simp only [↓aH,aJ,rE,↓reduceIte, rA, p4, p7, p8, aS, bH, aR, aA, aO, aB, gI hB1.w.1, aG, iap, lap, hiq, lq, hia, li]
     simp only [cT, aE]
     exact ⟨_, uA (S := ⟨Y1.h, Y1.nx + 20⟩) hB1.gz (by rw [hB1.lz]; omega), hY1.put (.inr rfl) (Ck _ _), hB1.setZ n75 n35 (Ck _ _) (by rw [Au]; exact hB1.lz), p1⟩
    ·refine aT (by simp only [↓aH,aJ,rE,↓reduceIte, rA, Aa (show ¬ (0 : Int) < (i : Int) by omega)]) (aN ?_)
     try simp only [↓aH,aJ,rE,↓reduceIte, rA]
     rw [if_neg hi0] at hS
     subst hS
     exact ⟨hY1, hB1, by refine ⟨?_,?_,?_,?_⟩<;>simp only [↓aH,aJ,rE,↓reduceIte,rA,p1,p4,p7,p8]⟩
   clear p1 p4 p7 p8 ldz hltZ hY1 hB1 sXY
   rintro o ⟨F, inr⟩ Y2 ⟨rfl, q0, hY2, hB2, p1, p4, p7, p8⟩
   simp only at q0 p1 p4 p7 p8
   subst q0
   try simp only [↓aH,aJ,rE,↓reduceIte, rA]
   have sSY : Same S Y2 := hY2.same sZ l3 l5 l5
   have cY : Y2.h.get S.nx = some (.cells [.int .i64 g.players, nv, iv] false 0) := by rw [hY2.2 _ lgZ ng3 ng5 ng5]; exact cZ
   obtain ⟨x, hx⟩ : ∃ x, g.nodes[i]? = some x := ⟨_, Ab hlt⟩
   have hnx := uV hx
   obtain ⟨e, b, q, hian, hb, he, ⟨a, bb, cc, rfl, ha, _, _⟩, _, hlf⟩ := aM.at hn (by decide) hx
   have hl3 := hlf 3 a rfl
   rw [← qY sSY hb] at hl3
   have hcx := hcr i hlt
   rw [hnx] at hcx
   have hpl : aBR g i (aAc x.next 0 R) = kC g := by rw [← hnx]; exact hpl
   have hxl : x.next.length ≤ 100000 := by
    have hinc := hwf.inc i (by omega)
    rw [Am, hnx] at hinc
    have := aGj (lo := 0) hinc fun c hc => ⟨by have := (hcx c hc).1; omega, (hcx c hc).2⟩
    omega
   refine cF ?_
   simp only [↓aH,aJ,rE,↓reduceIte, rA, p1, p8, aA, aB, kI cY, aG, hian, hl3, ha.len, Aj]
   refine bN (Q := fun o A' Y' => o = .normal ∧ aMx Z0 S.nx wb plb szb pv nv iv a g i x.next ZS 0 A' Y') ?_ ?_
   ·refine aU (cI (aMx Z0 S.nx wb plb szb pv nv iv a g i x.next ZS) ?_ x.next.length _ _ ⟨rfl, hY2, 0, R, hB2, by omega, hpl, by refine ⟨?_,?_,?_,?_,?_,?_,?_⟩<;>simp only [↓aH,aJ,rE,↓reduceIte,rA,p1,p4,p7,p8]⟩)
    clear p1 p4 p7 p8 hpl cY hian hb hl3 hlf hB2 hY2 sSY
    rintro k ⟨F, inr⟩ W ⟨q0, hW, j, R, hB, hjk, hpl, p1, p4, p7, p8, p71, p72, p73⟩
    simp only at q0 p1 p4 p7 p8 p71 p72 p73
    subst q0
    refine cF ?_
    simp only [↓aH,aJ,rE,↓reduceIte, rA, p72, p73]
    by_cases hj : j < x.next.length
    ·refine aD (aY (by simp only [↓aH,aJ,rE,↓reduceIte, rA, Ad (show (j : Int) < ((x.next.length : Nat) : Int) by omega)]) (aN ?_))
     try simp only [↓aH,aJ,rE,↓reduceIte, rA]
     have sSW : Same S W := hW.same sZ l3 l5 l5
     have haW := ha.same sSW
     have iaj := haW.iaddr hj
     have laj := haW.ld hj
     have hdr : x.next.drop j = x.next[j] :: x.next.drop (j + 1) := Cj hj
     have hgd : x.next.getD j 0 = x.next[j] := by rw [Ac, Ab hj]; rfl
     rw [hgd] at laj
     rw [hdr] at hpl
     obtain ⟨c0, c1'⟩ := hcx _ (Bt hj)
     generalize x.next[j] = c at *
     obtain ⟨m, rfl⟩ : ∃ m : Nat, c = (m : Int) := ⟨c.toNat, by omega⟩
     have hm : m < g.nodes.length := by omega
     have hiam := fV (b := plb) (o := false) hm
     have w1 : IntKind.i64.wrap ((j : Int) + 1) = ((j + 1 : Nat) : Int) := by rw [wrap_i64 (by omega) (by omega)]; omega
     refine aD (aU (aD (aP ?_)))
     simp only [↓aH,aJ,rE,↓reduceIte, rA, p71, p73, aG, iaj, laj]
     refine aP ?_
     simp only [↓aH,aJ,rE,↓reduceIte, rA, p7, aS, aR, aA, aB, fL hB.w.1, aG, hiam]
     refine fX (fun call => by simp only [↓aH,aJ,rE,↓reduceIte, rA, dW, cT]; exact uA (S := W) hB.gp (by rw [hB.lp]; exact hm)) ?_
     simp only [↓aH,aJ,rE,↓reduceIte, rA]
     refine aP ?_
     simp only [↓aH,aJ,rE,↓reduceIte, rA, p73, w1]
     simp only [aAc, Ba] at hpl
     exact ⟨k - 1, by omega, rfl, hW.put (.inl rfl) (Af _), j + 1, R.set m (j : Int), hB.setP n73 n35 (Af _) (by rw [Au]; exact hB.lp), by omega, hpl, by refine ⟨?_,?_,?_,?_,?_,?_,?_⟩<;>simp only [↓aH,aJ,rE,↓reduceIte,rA,p1,p4,p7,p8,p71,p72]⟩
    ·refine aD (aT (by simp only [↓aH,aJ,rE,↓reduceIte, rA, Aa (show ¬ (j : Int) < ((x.next.length : Nat) : Int) by omega)]) (cC ?_))
     simp only [↓aH,aJ,rE,↓reduceIte, rA]
     have hk0 : k = 0 := by omega
     subst hk0
     exact ⟨rfl, hW, j, R, hB, hjk, hpl, by refine ⟨?_,?_,?_,?_,?_,?_,?_⟩<;>simp only [↓aH,aJ,rE,↓reduceIte,rA,p1,p4,p7,p8,p71,p72,p73]⟩
   clear p1 p4 p7 p8
   rintro o ⟨F, inr⟩ W ⟨rfl, q0, hW, j, R3, hB3, hjk, hpl3, p1, p4, p7, p8, p71, p72, p73⟩
   simp only at q0 p1 p4 p7 p8
   subst q0
   rw [Cv (by omega)] at hpl3
   have w2 : IntKind.i64.wrap ((i : Int) - 1) = (i : Int) - 1 := wrap_i64 (by omega) (by omega)
   try simp only [↓aH,aJ,rE,↓reduceIte, rA]
   refine aP ?_
   simp only [↓aH,aJ,rE,↓reduceIte, rA, p8, w2]
   exact ⟨i, by omega, rfl, hW, R3, ZS, hB3, by omega, hpl3, hsz, by refine ⟨?_,?_,?_,?_⟩<;>simp only [↓aH,aJ,rE,↓reduceIte,rA,p1,p4,p7]⟩
  ·refine aT (by simp only [↓aH,aJ,rE,↓reduceIte, rA, Aa (show ¬ (0 : Int) ≤ (k : Int) - 1 by omega)]) (cC ?_)
   simp only [↓aH,aJ,rE,↓reduceIte, rA]
   have hk0 : k = 0 := by omega
   subst hk0
   exact ⟨rfl, hY, R, Z, hB, hkN, hpl, hsz, by refine ⟨?_,?_,?_,?_⟩<;>simp only [↓aH,aJ,rE,↓reduceIte,rA,p1,p4,p7,p8]⟩
 rintro o ⟨F, inr⟩ Y ⟨rfl, q0, hY, R, Z, hB, hkN, hpl, hsz, p1, p4, p7, p8⟩
 simp only at q0 p7
 subst q0
 have hpl : R = kC g := hpl
 subst hpl
 have hsz : Z = szL T g.nodes.length := hsz
 subst hsz
 try simp only [↓aH,aJ,rE,↓reduceIte, rA]
 refine cF ?_
 simp only [↓aH,aJ,rE,↓reduceIte, rA, p7]
 refine bD ?_
 simp only [↓aH,aJ,rE,↓reduceIte, rA]
 rw [h0]
 have sXY : Same X Y := hY.same sXZ lx3 lx5 lx5
 exact ⟨sX.trans sXY, _, rfl, fun _ => ⟨wb, plb, szb, pv, T, rfl, l7, hT, hTl, hpv.same sXY, hB⟩⟩
theorem zE {S : St} {nv iv : AV} {g : bF} (H : Has fns) (hn : aM 6 cL S nv g.nodes) (hi : aM 2 dB S iv g.infos) (hln : g.nodes.length ≤ 100000) :
  iM fns (.fn 68 [] []) [.agg [.int .i64 g.players, nv, iv]] S fun r S' => Same S S' ∧ ∃ p, r = .tup [p, .int .i64 (dF g)] ∧ (dF g = 0 → aLv S S' p nv iv g) := by
 refine aW (aBQ H hn hi hln) fun r S' h => ?_
 obtain ⟨h1, p, h2, h3⟩ := h
 refine ⟨h1, p, h2, fun h0 => ?_⟩
 obtain ⟨wb, plb, szb, pv, T, a, b, c, d, e, f⟩ := h3 h0
 exact ⟨wb, plb, szb, pv, T, _, a, b, c, d, e, f⟩
def aFz (m : List Int) : Prop := ∃ i k, k < i ∧ i < m.length ∧ m.getD i 0 = m.getD k 0
open Classical in
noncomputable def lD (n : Nat) (m : List Int) (ok : Prop) : Int := if m.length ≠ n then 10 else if ¬ zQ m n then 2 else if aFz m then 8 else if ok then 0 else 3
def aM9 (S1 : St) (mv : AV) (w e : Nat) (n : Nat) (m : List Int) (k : Nat) (A : bT) (X : St) : Prop := A.inr = false ∧ Same S1 X ∧ ∃ i, i + k = m.length ∧ (∀ j, j < i → 0 ≤ m.getD j 0 ∧ m.getD j 0 < n) ∧ aC 0 A.F = .ptr w 0 ∧ aC 1 A.F = mv ∧ aC 4 A.F = .ptr e 0 ∧ aC 6 A.F = .int .i64 (n : Int) ∧ aC 25 A.F = mv ∧ aC 26 A.F = .int .i64 ((m.length : Nat) : Int) ∧ aC 27 A.F = .int .i64 (i : Int)
def aMP (X1 : St) (mv : AV) (w e sb n : Nat) (m : List Int) (k : Nat) (A : bT) (X : St) : Prop := A.inr = false ∧ cU sb X1 X ∧ sb < X.nx ∧ ∃ i cs, i + k = m.length ∧ X.h.get sb = some (.cells cs false 0) ∧ cs.length = n ∧ (∀ v, v < n → cs[v]? = some (.bool (decide (∃ j, j < i ∧ m.getD j 0 = (v : Int))))) ∧ (∀ j l, l < j → j < i → m.getD j 0 ≠ m.getD l 0) ∧ aC 0 A.F = .ptr w 0 ∧ aC 1 A.F = mv ∧ aC 4 A.F = .ptr e 0 ∧ aC 9 A.F = .sl sb 0 n n false ∧ aC 42 A.F = mv ∧ aC 43 A.F = .int .i64 ((m.length : Nat) : Int) ∧ aC 44 A.F = .int .i64 (i : Int)
theorem qQ {S : St} {wb : Nat} {nv iv pv plv szv mv : AV} {g : bF} {m : List Int} {ok : Prop} {P : St → St → AV → AV → Prop} (H : Has fns) (hP : ∀ {S0 S1 S2 : St} {x y : AV}, P S0 S1 x y → S1.nx ≤ S2.nx → (∀ c, S0.nx ≤ c → c < S1.nx → S2.h.get c = S1.h.get c) → P S0 S2 x y) (hW : pF S wb g.players nv iv pv plv szv) (hn : aM 6 cL S nv g.nodes) (hm : bO .i64 S mv m) (hln : g.nodes.length ≤ 100000)
  (himg : m.length = g.nodes.length → zQ m g.nodes.length → ¬ aFz m → ∀ S', Same S S' → iM fns (.fn 116 [] []) [.ptr wb 0, mv] S' fun r S'' => Same S' S'' ∧ ∃ x y t, r = .tup [.agg [x, y], .bool t] ∧ (t = true ↔ ok) ∧ (t = true → P S' S'' x y)) :
  iM fns (.fn 69 [] []) [.ptr wb 0, mv] S fun r S' => Same S S' ∧ ∃ x y, r = .tup [.agg [x, y], .int .i64 (lD g.nodes.length m ok)] ∧ (lD g.nodes.length m ok = 0 → ∃ S0, S.nx ≤ S0.nx ∧ P S0 S' x y) ∧ (lD g.nodes.length m ok ≠ 0 → x = .nilsl ∧ y = .nilsl) := by
 have hb0 : ∀ (F : Fr) (h : Ev.T AB), gR (.build [.nilsl, .nilsl] []) F h = some (.agg [.nilsl, .nilsl]) := fun _ _ => rfl
 refine cV H.f69 (by simp) ?_
 simp only [↓aH,aJ,rE,↓reduceIte, rA]
 refine cF ?_
 refine dC ?_
 intro S1 s1 n1 c1
 simp only [↓aH,aJ,rE,↓reduceIte, rA]
 have lw := hW.2
 have hW1 := hW.same s1
 have le : S.nx < S1.nx := by omega
 refine cF ?_
 simp only [↓aH,aJ,rE,↓reduceIte, rA, aS, aR, aA, aB, eY hW1.1, hn.len]
 refine jH ?_
 simp only [↓aH,aJ,rE,↓reduceIte, rA, hm.len, Aj]
 by_cases hlen : m.length = g.nodes.length
 rotate_left
 ·have hE : lD g.nodes.length m ok = 10 := by unfold lD; rw [if_pos hlen]
  rw [hE]
  refine aY (by simp only [↓aH,aJ,rE,↓reduceIte, rA, Ad (show ((m.length : Nat) : Int) ≠ ((g.nodes.length : Nat) : Int) by omega)]) ?_
  refine cF ?_
  simp only [↓aH,aJ,rE,↓reduceIte, rA, hb0]
  refine dU (b := S.nx) (by simp only [↓aH,aJ,rE,↓reduceIte, rA]) (by simp only [↓aH,aJ,rE,↓reduceIte, rA]; exact bK _) c1 rfl rfl ?_
  intro S2 s2 n2 c2
  simp only [↓aH,aJ,rE,↓reduceIte, rA]
  have ld2 := pS (n := 2) c2 rfl
  refine bD ?_
  simp only [↓aH,aJ,rE,↓reduceIte, rA, eZ, ld2]
  exact ⟨s2.same s1 (Af _), _, _, rfl, fun h => absurd h (by decide), fun _ => ⟨rfl, rfl⟩⟩
 refine aT (by simp only [↓aH,aJ,rE,↓reduceIte, rA, Aa (show ¬ ((m.length : Nat) : Int) ≠ ((g.nodes.length : Nat) : Int) by omega)]) (aN ?_)
 try simp only [↓aH,aJ,rE,↓reduceIte, rA]
 refine aD (bN (Q := fun o A' X => (o = .normal ∧ aM9 S1 mv wb S.nx g.nodes.length m 0 A' X) ∨ (o = .ret ∧ cU S.nx S1 X ∧ X.h.get S.nx = some (.cells [.nilsl, .nilsl] false 0) ∧ ¬ zQ m g.nodes.length ∧ aC 4 A'.F = .ptr S.nx 0 ∧ aC 5 A'.F = .int .i64 2)) (aD (aP ?_)) ?_)
 ·simp only [↓aH,aJ,rE,↓reduceIte, rA, hm.len, Aj]
  refine aU (cI (aM9 S1 mv wb S.nx g.nodes.length m) ?_ m.length _ _ ⟨rfl, Same.refl _, 0, by omega, fun j hj => by omega, by refine ⟨?_,?_,?_,?_,?_,?_,?_⟩<;>simp only [↓aH,aJ,rE,↓reduceIte,rA]⟩)
  rintro k ⟨F, inr⟩ X ⟨q0, hX, i, hik, hr, p0, p1, p4, p6, p25, p26, p27⟩
  simp only at q0 p0 p1 p4 p6 p25 p26 p27
  subst q0
  refine cF ?_
  simp only [↓aH,aJ,rE,↓reduceIte, rA, p26, p27]
  by_cases hlt : i < m.length
  ·refine aD (aY (by simp only [↓aH,aJ,rE,↓reduceIte, rA, Ad (show (i : Int) < ((m.length : Nat) : Int) by omega)]) (aN ?_))
   try simp only [↓aH,aJ,rE,↓reduceIte, rA]
   have hmX := hm.same (s1.trans hX)
   have ia := hmX.iaddr hlt
   have la := hmX.ld hlt
   have hmem : m.getD i 0 ∈ m := by rw [Ac, Ab hlt]; exact Bt _
   have cX : X.h.get S.nx = some (.cells [.nilsl, .nilsl] false 0) := by rw [hX.2 _ le]; exact c1
   have w1 : IntKind.i64.wrap ((i : Int) + 1) = ((i + 1 : Nat) : Int) := by rw [wrap_i64 (by omega) (by omega)]; omega
   refine aD (aU (aD (aP ?_)))
   simp only [↓aH,aJ,rE,↓reduceIte, rA, p25, p27, aG, ia, la]
   refine aD (bN (Q := fun o A' Y => o = .normal ∧ A'.inr = false ∧ Y = X ∧ aC 0 A'.F = .ptr wb 0 ∧ aC 1 A'.F = mv ∧ aC 4 A'.F = .ptr S.nx 0 ∧ aC 6 A'.F = .int .i64 ((g.nodes.length : Nat) : Int) ∧ aC 25 A'.F = mv ∧ aC 26 A'.F = .int .i64 ((m.length : Nat) : Int) ∧ aC 27 A'.F = .int .i64 (i : Int) ∧ aC 37 A'.F = .bool (decide (m.getD i 0 < 0 ∨ ((g.nodes.length : Nat) : Int) ≤ m.getD i 0))) (aP ?_) ?_)
   ·by_cases h1 : m.getD i 0 < 0
    ·rw [Ad (show m.getD i 0 < 0 ∨ ((g.nodes.length : Nat) : Int) ≤ m.getD i 0 from .inl h1)]
     simp only [↓aH,aJ,rE,↓reduceIte, rA, p0, p1, p4, p6, p25, p26, p27, Ad h1]
    ·by_cases h2 : ((g.nodes.length : Nat) : Int) ≤ m.getD i 0
     ·rw [Ad (show m.getD i 0 < 0 ∨ ((g.nodes.length : Nat) : Int) ≤ m.getD i 0 from .inr h2)]
      simp only [↓aH,aJ,rE,↓reduceIte, rA, p0, p1, p4, p6, p25, p26, p27, Aa h1, Ad h2]
     ·rw [Aa (show ¬ (m.getD i 0 < 0 ∨ ((g.nodes.length : Nat) : Int) ≤ m.getD i 0) by omega)]
      simp only [↓aH,aJ,rE,↓reduceIte, rA, p0, p1, p4, p6, p25, p26, p27, Aa h1, Aa h2]
   clear p0 p1 p4 p6 p25 p26 p27
   rintro o ⟨F, inr⟩ Y ⟨rfl, q0, hYX, p0, p1, p4, p6, p25, p26, p27, pb⟩
   simp only at q0 p0 p1 p4 p6 p25 p26 p27 pb
   subst q0
   rw [hYX]
   try simp only [↓aH,aJ,rE,↓reduceIte, rA]
   by_cases hbad : m.getD i 0 < 0 ∨ ((g.nodes.length : Nat) : Int) ≤ m.getD i 0
   ·refine aY (by simp only [↓aH,aJ,rE,↓reduceIte, rA, pb, Ad hbad]) ?_
    refine cF ?_
    simp only [↓aH,aJ,rE,↓reduceIte, rA, hb0]
    refine dU (b := S.nx) (by simp only [↓aH,aJ,rE,↓reduceIte, rA, p4]) (by simp only [↓aH,aJ,rE,↓reduceIte, rA]; exact bK _) cX rfl rfl ?_
    intro X2 x2 m2 d2
    simp only [↓aH,aJ,rE,↓reduceIte, rA]
    refine bD ?_
    simp only [↓aH,aJ,rE,↓reduceIte, rA, p4]
    exact .inr ⟨⟨Al hX.1 x2.1, fun c hc hne => by rw [x2.2 _ (Ae hc hX.1) hne, hX.2 _ hc]⟩, d2, fun h => by have := h _ hmem; omega⟩
   ·refine aT (by simp only [↓aH,aJ,rE,↓reduceIte, rA, pb, Aa hbad]) (aN ?_)
    try simp only [↓aH,aJ,rE,↓reduceIte, rA]
    refine aP ?_
    simp only [↓aH,aJ,rE,↓reduceIte, rA, p27, w1]
    refine ⟨k - 1, by omega, rfl, hX, i + 1, by omega, fun j hj => ?_, by refine ⟨?_,?_,?_,?_,?_,?_,?_⟩<;>simp only [↓aH,aJ,rE,↓reduceIte,rA,p0,p1,p4,p6,p25,p26]⟩
    by_cases hji : j = i
    ·rw [hji]; omega
    ·exact hr j (by omega)
  ·refine aD (aT (by simp only [↓aH,aJ,rE,↓reduceIte, rA, Aa (show ¬ (i : Int) < ((m.length : Nat) : Int) by omega)]) (cC ?_))
   simp only [↓aH,aJ,rE,↓reduceIte, rA]
   have hk0 : k = 0 := by omega
   subst hk0
   exact .inl ⟨rfl, hX, i, hik, hr, by refine ⟨?_,?_,?_,?_,?_,?_,?_⟩<;>simp only [↓aH,aJ,rE,↓reduceIte,rA,p0,p1,p4,p6,p25,p26,p27]⟩
 rintro o ⟨F, inr⟩ X (⟨rfl, q0, hX, i, hik, hr, p0, p1, p4, p6, p25, p26, p27⟩ | ⟨rfl, hX, cX, hno, p4, p5⟩)
 rotate_left
 ·have hE : lD g.nodes.length m ok = 2 := by unfold lD; rw [if_neg (fun h => h hlen), if_pos hno]
  rw [hE]
  simp only at p4 p5
  have ld2 := pS (n := 2) cX rfl
  simp only [↓aH,aJ,rE,↓reduceIte, rA, eZ, p4, p5, ld2]
  exact ⟨⟨Al s1.1 hX.1, fun c hc => by rw [hX.2 _ (Ae hc s1.1) (by omega), s1.2 _ hc]⟩, _, _, rfl, fun h => absurd h (by decide), fun _ => ⟨rfl, rfl⟩⟩
 simp only at q0 p0 p1 p4 p6
 subst q0
 have hin : zQ m g.nodes.length := fun x hx => by
  obtain ⟨j, hj, rfl⟩ := Eb.1 hx
  have := hr j (by omega)
  rw [Ac, Ab hj] at this
  exact this
 clear p25 p26 p27 hik hr i
 have sX := s1.trans hX
 have leX : S.nx < X.nx := Ae le hX.1
 have cX : X.h.get S.nx = some (.cells [.nilsl, .nilsl] false 0) := by rw [hX.2 _ le]; exact c1
 try simp only [↓aH,aJ,rE,↓reduceIte, rA]
 refine cF ?_
 simp only [↓aH,aJ,rE,↓reduceIte, rA, p6]
 refine iO (qR (n := g.nodes.length) (by simp only [↓aH,aJ,rE,↓reduceIte, rA, aG]) (by simp only [↓aH,aJ,rE,↓reduceIte, rA, aG]) (by unfold room; omega) (by unfold room; omega)) ?_
 intro X1 x1 m1 d1
 rw [repeatL_one] at d1
 simp only [↓aH,aJ,rE,↓reduceIte, rA]
 have sX1 := sX.trans x1
 refine aD (bN (Q := fun o A' Y => (o = .normal ∧ aMP X1 mv wb S.nx X.nx g.nodes.length m 0 A' Y) ∨ (o = .ret ∧ Same S Y ∧ Y.h.get S.nx = some (.cells [.nilsl, .nilsl] false 0) ∧ aFz m ∧ aC 4 A'.F = .ptr S.nx 0 ∧ aC 5 A'.F = .int .i64 8)) (aD (aP ?_)) ?_)
 ·simp only [↓aH,aJ,rE,↓reduceIte, rA, p1, hm.len, Aj]
  refine aU (cI (aMP X1 mv wb S.nx X.nx g.nodes.length m) ?_ m.length _ _ ⟨rfl, cU.refl _ _, by omega, 0, _, by omega, d1, Ap .., fun v hv => ?_, fun j l _ hj => by omega, by refine ⟨?_,?_,?_,?_,?_,?_,?_⟩<;>simp only [↓aH,aJ,rE,↓reduceIte,rA,p0,p1,p4]⟩)
  rotate_left
  ·rw [Ca, if_pos hv, Aa (fun ⟨j, hj, _⟩ => by omega)]
  clear p0 p1 p4 p6
  rintro k ⟨F, inr⟩ Y ⟨q0, hY, hsb, i, cs, hik, hg, hcs, hse, hnd, p0, p1, p4, p9, p42, p43, p44⟩
  simp only at q0 p0 p1 p4 p9 p42 p43 p44
  subst q0
  refine cF ?_
  simp only [↓aH,aJ,rE,↓reduceIte, rA, p43, p44]
  by_cases hlt : i < m.length
  ·refine aD (aY (by simp only [↓aH,aJ,rE,↓reduceIte, rA, Ad (show (i : Int) < ((m.length : Nat) : Int) by omega)]) (aN ?_))
   try simp only [↓aH,aJ,rE,↓reduceIte, rA]
   have lX1 : X.nx < X1.nx := by omega
   have sY : Same S Y := ⟨Al sX1.1 hY.1, fun c hc => by rw [hY.2 _ (Ae hc sX1.1) (by omega)]; exact sX1.2 _ hc⟩
   have cY : Y.h.get S.nx = some (.cells [.nilsl, .nilsl] false 0) := by rw [hY.2 _ (by omega) (by omega), x1.2 _ leX]; exact cX
   have hmY := hm.same sY
   have ia := hmY.iaddr hlt
   have la := hmY.ld hlt
   have hmem : m.getD i 0 ∈ m := by rw [Ac, Ab hlt]; exact Bt _
   have w1 : IntKind.i64.wrap ((i : Int) + 1) = ((i + 1 : Nat) : Int) := by rw [wrap_i64 (by omega) (by omega)]; omega
   obtain ⟨v0, v1⟩ := hin _ hmem
   generalize hvv : m.getD i 0 = v at *
   obtain ⟨u, rfl⟩ : ∃ u : Nat, v = (u : Int) := ⟨v.toNat, by omega⟩
   have hu : u < g.nodes.length := by omega
   have hia := fV (b := X.nx) (o := false) hu
   have hlu := cS hg (hse u hu)
   refine aD (aU (aD (aP ?_)))
   simp only [↓aH,aJ,rE,↓reduceIte, rA, p42, p44, aG, ia, la]
   refine jH ?_
   simp only [↓aH,aJ,rE,↓reduceIte, rA, p9, aG, hia, hlu]
   by_cases hd : ∃ j, j < i ∧ m.getD j 0 = (u : Int)
   ·refine aY (by simp only [↓aH,aJ,rE,↓reduceIte, rA, Ad hd]) ?_
    refine cF ?_
    simp only [↓aH,aJ,rE,↓reduceIte, rA, hb0]
    refine dU (b := S.nx) (by simp only [↓aH,aJ,rE,↓reduceIte, rA, p4]) (by simp only [↓aH,aJ,rE,↓reduceIte, rA]; exact bK _) cY rfl rfl ?_
    intro X2 x2 m2 d2
    simp only [↓aH,aJ,rE,↓reduceIte, rA]
    refine bD ?_
    simp only [↓aH,aJ,rE,↓reduceIte, rA, p4]
    obtain ⟨j, hj, hjv⟩ := hd
    exact .inr ⟨⟨Al sY.1 x2.1, fun c hc => by rw [x2.2 _ (Ae hc sY.1) (by omega), sY.2 _ hc]⟩, d2, i, j, hj, hlt, by rw [hvv, hjv]⟩
   ·refine aT (by simp only [↓aH,aJ,rE,↓reduceIte, rA, Aa hd]) (aN ?_)
    try simp only [↓aH,aJ,rE,↓reduceIte, rA]
    refine aP ?_
    simp only [↓aH,aJ,rE,↓reduceIte, rA, p9, aG, hia]
    refine fX (fun call => by simp only [↓aH,aJ,rE,↓reduceIte, rA, dW]; exact stc (S := Y) (w := .bool true) hg (by rw [hcs]; exact hu)) ?_
    simp only [↓aH,aJ,rE,↓reduceIte, rA]
    refine aP ?_
    simp only [↓aH,aJ,rE,↓reduceIte, rA, p44, w1]
    refine ⟨k - 1, by omega, rfl, hY.put _, hsb, i + 1, cs.set u (.bool true), by omega, by simp only; rw [T.get_set, if_pos rfl], by rw [Au]; exact hcs, fun v hv => ?_, fun j l hl hj => ?_, by refine ⟨?_,?_,?_,?_,?_,?_,?_⟩<;>simp only [↓aH,aJ,rE,↓reduceIte,rA,p0,p1,p4,p9,p42,p43]⟩
    ·rw [Di]
     split
     ·rename_i e
      rw [if_pos (by rw [hcs]; exact hu), Ad (show ∃ j, j < i + 1 ∧ m.getD j 0 = (v : Int) from ⟨i, by omega, by rw [hvv, e]⟩)]
     ·rename_i e
      rw [hse v hv]
      congr 2
      rw [Ce, Db, Db]
      constructor
      ·rintro ⟨j, h1, h2⟩; exact ⟨j, by omega, h2⟩
      ·rintro ⟨j, h1, h2⟩
       refine ⟨j, ?_, h2⟩
       by_cases hji : j = i
       ·rw [hji, hvv] at h2; omega
       ·omega
    ·by_cases hji : j = i
     ·rw [hji, hvv]; exact fun h => hd ⟨l, by omega, h.symm⟩
     ·exact hnd j l hl (by omega)
  ·refine aD (aT (by simp only [↓aH,aJ,rE,↓reduceIte, rA, Aa (show ¬ (i : Int) < ((m.length : Nat) : Int) by omega)]) (cC ?_))
   simp only [↓aH,aJ,rE,↓reduceIte, rA]
   have hk0 : k = 0 := by omega
   subst hk0
   exact .inl ⟨rfl, hY, hsb, i, cs, hik, hg, hcs, hse, hnd, by refine ⟨?_,?_,?_,?_,?_,?_,?_⟩<;>simp only [↓aH,aJ,rE,↓reduceIte,rA,p0,p1,p4,p9,p42,p43,p44]⟩
 clear p0 p1 p4 p6
 rintro o ⟨F, inr⟩ Y (⟨rfl, q0, hY, hsb, i, cs, hik, hg, hcs, hse, hnd, p0, p1, p4, p9, p42, p43, p44⟩ | ⟨rfl, sY, cY, hdup, p4, p5⟩)
 rotate_left
 ·have hE : lD g.nodes.length m ok = 8 := by unfold lD; rw [if_neg (fun h => h hlen), if_neg (fun h => h hin), if_pos hdup]
  rw [hE]
  simp only at p4 p5
  have ld2 := pS (n := 2) cY rfl
  simp only [↓aH,aJ,rE,↓reduceIte, rA, eZ, p4, p5, ld2]
  exact ⟨sY, _, _, rfl, fun h => absurd h (by decide), fun _ => ⟨rfl, rfl⟩⟩
 simp only at q0 p0 p1 p4
 subst q0
 have hnd' : ¬ aFz m := fun ⟨i', k', h1, h2, h3⟩ => hnd i' k' h1 (by omega) h3
 have lX1 : X.nx < X1.nx := by omega
 have sY : Same S Y := ⟨Al sX1.1 hY.1, fun c hc => by rw [hY.2 _ (Ae hc sX1.1) (by omega)]; exact sX1.2 _ hc⟩
 have cY : Y.h.get S.nx = some (.cells [.nilsl, .nilsl] false 0) := by rw [hY.2 _ (by omega) (by omega), x1.2 _ leX]; exact cX
 have leY : S.nx < Y.nx := by have := hY.1; omega
 have hE0 : ok → lD g.nodes.length m ok = 0 := fun hk => by unfold lD; rw [if_neg (fun h => h hlen), if_neg (fun h => h hin), if_neg hnd', if_pos hk]
 have hE3 : ¬ ok → lD g.nodes.length m ok = 3 := fun hk => by unfold lD; rw [if_neg (fun h => h hlen), if_neg (fun h => h hin), if_neg hnd', if_neg hk]
 try simp only [↓aH,aJ,rE,↓reduceIte, rA]
 refine jH ?_
 simp only [↓aH,aJ,rE,↓reduceIte, rA, p0, p1]
 refine bJ ?_
 simp only [↓aH,aJ,rE,↓reduceIte, rA]
 refine aW (himg hlen hin hnd' Y sY) ?_
 rintro _ Z ⟨hZ, x, y, t, rfl, ht, htP⟩
 simp only [↓aH,aJ,rE,↓reduceIte, rA, vE, vD]
 refine dC ?_
 intro Z1 z1 k1 e1
 refine dU (b := Z.nx) (by simp only [↓aH,aJ,rE,↓reduceIte, rA]) (by simp only [↓aH,aJ,rE,↓reduceIte, rA]; exact bK _) e1 rfl rfl ?_
 intro Z2 z2 k2 e2
 simp only [↓aH,aJ,rE,↓reduceIte, rA]
 have sZ2 : Same Z Z2 := z2.same z1 (Af _)
 have sSZ2 := (sY.trans hZ).trans sZ2
 have cZ2 : Z2.h.get S.nx = some (.cells [.nilsl, .nilsl] false 0) := by rw [(hZ.trans sZ2).2 _ leY]; exact cY
 have lZ2 : S.nx < Z2.nx := Ae leY (hZ.trans sZ2).1
 have ldim := pS (n := 2) e2 rfl
 refine cF ?_
 simp only [↓aH,aJ,rE,↓reduceIte, rA]
 cases t with
 | true =>
  rw [hE0 (ht.1 rfl)]
  refine aY (by simp only [↓aH,aJ,rE,↓reduceIte, rA]) ?_
  refine cF ?_
  simp only [↓aH,aJ,rE,↓reduceIte, rA, ldim]
  refine dU (b := S.nx) (by simp only [↓aH,aJ,rE,↓reduceIte, rA, p4]) (by simp only [↓aH,aJ,rE,↓reduceIte, rA]; exact bK _) cZ2 rfl rfl ?_
  intro Z3 z3 k3 e3
  simp only [↓aH,aJ,rE,↓reduceIte, rA]
  have ld3 := pS (n := 2) e3 rfl
  refine bD ?_
  simp only [↓aH,aJ,rE,↓reduceIte, rA, eZ, p4, ld3]
  refine ⟨⟨Al sSZ2.1 z3.1, fun c hc => by rw [z3.2 _ (Ae hc sSZ2.1) (by omega), sSZ2.2 _ hc]⟩, x, y, rfl, ⟨Y, sY.1, hP (htP rfl) (Al sZ2.1 z3.1) fun c h1 h2 => ?_⟩, fun h => absurd rfl h⟩
  rw [z3.2 _ (Ae h2 sZ2.1) (by omega), sZ2.2 _ h2]
 | false =>
  rw [hE3 (fun h => by have := ht.2 h; cases this)]
  refine aT (by simp only [↓aH,aJ,rE,↓reduceIte, rA]) (aN ?_)
  try simp only [↓aH,aJ,rE,↓reduceIte, rA]
  refine cF ?_
  simp only [↓aH,aJ,rE,↓reduceIte, rA, hb0]
  refine dU (b := S.nx) (by simp only [↓aH,aJ,rE,↓reduceIte, rA, p4]) (by simp only [↓aH,aJ,rE,↓reduceIte, rA]; exact bK _) cZ2 rfl rfl ?_
  intro Z3 z3 k3 e3
  simp only [↓aH,aJ,rE,↓reduceIte, rA]
  have ld3 := pS (n := 2) e3 rfl
  refine bD ?_
  simp only [↓aH,aJ,rE,↓reduceIte, rA, eZ, p4, ld3]
  exact ⟨⟨Al sSZ2.1 z3.1, fun c hc => by rw [z3.2 _ (Ae hc sSZ2.1) (by omega), sSZ2.2 _ hc]⟩, _, _, rfl, fun h => absurd h (by decide), fun _ => ⟨rfl, rfl⟩⟩
theorem aD9 : ∀ (l : List Int) (s : Nat) (r : List Int), (aAc l s r).length = r.length
 | [], _, _ => rfl
 | c :: l, s, r => by simp only [aAc]; rw [aD9 l, Au]
theorem aBt {v : Nat} : ∀ (l : List Int) (s : Nat) (r : List Int), (∀ c ∈ l, c.toNat ≠ v) → (aAc l s r).getD v 0 = r.getD v 0
 | [], _, _, _ => rfl
 | c :: l, s, r, h => by
  simp only [aAc]
  rw [aBt l _ _ fun c' hc' => h c' (Bg _ hc')]
  have hne := h c (Bm ..)
  rw [Ac, Di, if_neg hne, Ac]
theorem aGq {k : Nat} {c : Int} : ∀ (l : List Int) (s : Nat) (r : List Int), l.Pairwise (· < ·) → (∀ c ∈ l, 0 ≤ c) → l[k]? = some c → c.toNat < r.length → (aAc l s r).getD c.toNat 0 = ((s + k : Nat) : Int)
 | [], _, _, _, _, h, _ => by simp at h
 | x :: l, s, r, hi, h0, hk, hr => by
  obtain ⟨h1, h2⟩ := List.pairwise_cons.1 hi
  simp only [aAc]
  cases k with
  | zero =>
   rw [List.getElem?_cons_zero] at hk
   cases hk
   rw [aBt l _ _ fun c' hc' => by
    have := h1 c' hc'
    have := h0 c (Bm ..)
    omega, fS hr, if_pos rfl, Bj]
  | succ k =>
   rw [Ch] at hk
   rw [aGq l (s + 1) _ h2 (fun c' hc' => h0 c' (Bg _ hc')) hk (by rw [Au]; exact hr)]
   congr 1
   omega
theorem aEE {g : bF} {v : Nat} : ∀ (i : Nat) (r : List Int), (∀ j, j < i → ∀ c ∈ dN g j, c.toNat ≠ v) → (aBR g i r).getD v 0 = r.getD v 0
 | 0, _, _ => rfl
 | i + 1, r, h => by
  simp only [aBR]
  rw [aEE i _ fun j hj => h j (by omega), aBt _ _ _ (h i (by omega))]
theorem aD8 {g : bF} {i : Nat} : ∀ (n : Nat) (r : List Int), i ≤ n → ∃ r1, r1.length = r.length ∧ aBR g n r = aBR g i r1
 | 0, r, h => ⟨r, rfl, by rw [show i = 0 by omega]⟩
 | n + 1, r, h => by
  by_cases e : i = n + 1
  ·exact ⟨r, rfl, by rw [e]⟩
  ·obtain ⟨r1, h1, h2⟩ := aD8 (i := i) n (aAc (dN g n) 0 r) (by omega)
   exact ⟨r1, by rw [h1, aD9], by simp only [aBR]; exact h2⟩
theorem aF1 {g : bF} {T : List cE} (hw : WF (dN g) 0 (-1) T) (hT : T.length = g.nodes.length) {i k : Nat} {c : Int} (hi : i < g.nodes.length) (hk : (dN g i)[k]? = some c) : (kC g).getD c.toNat 0 = (k : Int) := by
 have cf : ∀ j, j < g.nodes.length → ∀ c ∈ dN g j, (j : Int) < c ∧ c < ((g.nodes.length : Nat) : Int) ∧ jC T c.toNat = some (j : Int) := fun j hj c hc => by
  obtain ⟨a, b, e⟩ := hw.cf j (by omega) c (by rw [Am]; exact hc)
  rw [Am] at a b e
  exact ⟨a, by omega, e⟩
 have hc := Bx hk
 obtain ⟨c1, c2, c3⟩ := cf i hi c hc
 unfold kC
 obtain ⟨r1, h1, h2⟩ := aD8 (g := g) (i := i + 1) g.nodes.length (List.replicate g.nodes.length 0) (by omega)
 rw [Ap] at h1
 rw [h2]
 simp only [aBR]
 rw [aEE i _ fun j hj c' hc' e => ?_, aGq _ _ _ ?_ (fun c' hc' => by have := (cf i hi c' hc').1; omega) hk (by rw [h1]; omega), Am]
 ·have := hw.inc i (by omega)
  rw [Am] at this
  exact this
 ·have h3 := (cf j (by omega) c' hc').2.2
  rw [e, c3] at h3
  have := Bq h3
  omega
end Go.Ev.Gl
