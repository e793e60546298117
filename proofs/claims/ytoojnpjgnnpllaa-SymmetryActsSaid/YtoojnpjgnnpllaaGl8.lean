import Derived.Test.YtoojnpjgnnpllaaGl7
open Nat renaming reduceEqDiff → rE, reduceAdd → rA
set_option maxHeartbeats 4000000
set_option linter.unusedSimpArgs false
set_option linter.unusedVariables false
namespace Go.Ev.Gl
variable {fns : T cA}
def aMn (S : St) (a b : AV) (l m : List Int) (k : Nat) (A : bT) (X : St) : Prop := A.inr = false ∧ Same S X ∧ ∃ i, i + k = l.length ∧ l.take i = m.take i ∧ aC 0 A.F = a ∧ aC 1 A.F = b ∧ aC 5 A.F = .int .i64 (i : Int)
theorem aES {S : St} {a b : AV} {l m : List Int} (H : Has fns) (ha : bS .i64 S a l) (hb : bS .i64 S b m) (hl : l.length ≤ 140737488355328) : iQ fns (.fn 19 [] []) [a, b] S fun r S' => r = .bool (decide (l = m)) ∧ Same S S' := by
 refine cW H.f19 (by simp) ?_
 simp only [↓aJ,aH,rE,↓reduceIte, rA]
 refine cI ?_
 simp only [↓aJ,aH,rE,↓reduceIte, rA]
 refine kK ?_
 simp only [↓aJ,aH,rE,↓reduceIte, rA, ha.len, hb.len, Int.ofNat_eq_natCast]
 by_cases hlm : l.length = m.length
 rotate_left
 ·rw [decide_eq_false (show ¬ l = m from fun e => hlm (by rw [e]))]
  refine bB (by simp only [↓aJ,aH,rE,↓reduceIte, rA, decide_eq_true (show ((l.length : Nat) : Int) ≠ ((m.length : Nat) : Int) by omega)]) ?_
  refine cI ?_
  simp only [↓aJ,aH,rE,↓reduceIte, rA]
  refine aY ?_
  simp only [↓aJ,aH,rE,↓reduceIte, rA]
  exact Same.refl _
 refine aX (by simp only [↓aJ,aH,rE,↓reduceIte, rA, decide_eq_false (show ¬ ((l.length : Nat) : Int) ≠ ((m.length : Nat) : Int) by omega)]) (aO ?_)
 try simp only [↓aJ,aH,rE,↓reduceIte, rA]
 refine aE (bP (Q := fun o A' X => (o = .normal ∧ aMn S a b l m 0 A' X) ∨ (o = .ret ∧ Same S X ∧ l ≠ m ∧ aC 4 A'.F = .bool false)) (aE (aR ?_)) ?_)
 ·simp only [↓aJ,aH,rE,↓reduceIte, rA]
  refine bE (cS (aMn S a b l m) ?_ l.length _ _ ⟨rfl, Same.refl _, 0, by omega, rfl, by simp only [↓aJ,aH,rE,↓reduceIte, rA], by simp only [↓aJ,aH,rE,↓reduceIte, rA], by simp only [↓aJ,aH,rE,↓reduceIte, rA]⟩)
  rintro k ⟨F, inr⟩ X ⟨q0, hX, i, hik, he, p0, p1, p5⟩
  simp only at q0 p0 p1 p5
  subst q0
  refine kK ?_
  simp only [↓aJ,aH,rE,↓reduceIte, rA, p0, p5, ha.len, Int.ofNat_eq_natCast]
  by_cases hlt : i < l.length
  ·refine bB (by simp only [↓aJ,aH,rE,↓reduceIte, rA, decide_eq_true (show (i : Int) < ((l.length : Nat) : Int) by omega)]) (aO ?_)
   try simp only [↓aJ,aH,rE,↓reduceIte, rA]
   have hltm : i < m.length := by omega
   have ia := (ha.same hX).iaddr hlt
   have la := (ha.same hX).ld hlt
   have ib := (hb.same hX).iaddr hltm
   have lb := (hb.same hX).ld hltm
   have w1 : IntKind.i64.wrap ((i : Int) + 1) = ((i + 1 : Nat) : Int) := by rw [wrap_i64 (by omega) (by omega)]; omega
   refine aE (bE (aE (mO ?_)))
   simp only [↓aJ,aH,rE,↓reduceIte, rA, p0, p1, p5, aL, ia, ib, la, lb]
   have el : l.getD i 0 = l[i] := by rw [List.getD_eq_getElem?_getD, List.getElem?_eq_getElem hlt]; rfl
   have em : m.getD i 0 = m[i] := by rw [List.getD_eq_getElem?_getD, List.getElem?_eq_getElem hltm]; rfl
   by_cases hx : l.getD i 0 = m.getD i 0
   ·refine aX (by simp only [↓aJ,aH,rE,↓reduceIte, rA, decide_eq_false (show ¬ l.getD i 0 ≠ m.getD i 0 from fun h => h hx)]) (aO ?_)
    try simp only [↓aJ,aH,rE,↓reduceIte, rA]
    refine aR ?_
    simp only [↓aJ,aH,rE,↓reduceIte, rA, p5, w1]
    refine ⟨k - 1, by omega, rfl, hX.trans (Same.nx _ _), i + 1, by omega, ?_, by simp only [↓aJ,aH,rE,↓reduceIte, rA, p0], by simp only [↓aJ,aH,rE,↓reduceIte, rA, p1], by simp only [↓aJ,aH,rE,↓reduceIte, rA]⟩
    rw [List.take_add_one, List.take_add_one, he, List.getElem?_eq_getElem hlt, List.getElem?_eq_getElem hltm, ← el, ← em, hx]
   ·refine bB (by simp only [↓aJ,aH,rE,↓reduceIte, rA, decide_eq_true (show l.getD i 0 ≠ m.getD i 0 from hx)]) ?_
    refine cI ?_
    simp only [↓aJ,aH,rE,↓reduceIte, rA]
    refine aY ?_
    simp only [↓aJ,aH,rE,↓reduceIte, rA]
    exact .inr ⟨hX.trans (Same.nx _ _), fun e => hx (by rw [e])⟩
  ·refine aX (by simp only [↓aJ,aH,rE,↓reduceIte, rA, decide_eq_false (show ¬ (i : Int) < ((l.length : Nat) : Int) by omega)]) (cL ?_)
   simp only [↓aJ,aH,rE,↓reduceIte, rA]
   have hk0 : k = 0 := by omega
   subst hk0
   exact .inl ⟨rfl, hX, i, hik, he, by simp only [↓aJ,aH,rE,↓reduceIte, rA, p0], by simp only [↓aJ,aH,rE,↓reduceIte, rA, p1], by simp only [↓aJ,aH,rE,↓reduceIte, rA, p5]⟩
 rintro o ⟨F, inr⟩ X (⟨rfl, q0, hX, i, hik, he, p0, p1, p5⟩ | ⟨rfl, hX, hne, p4⟩)
 rotate_left
 ·simp only at p4
  simp only [↓aJ,aH,rE,↓reduceIte, rA, p4]
  rw [decide_eq_false hne]
  exact ⟨rfl, hX⟩
 simp only at q0
 subst q0
 rw [List.take_of_length_le (by omega), List.take_of_length_le (by omega)] at he
 rw [decide_eq_true he]
 try simp only [↓aJ,aH,rE,↓reduceIte, rA]
 refine cI ?_
 simp only [↓aJ,aH,rE,↓reduceIte, rA]
 refine aY ?_
 simp only [↓aJ,aH,rE,↓reduceIte, rA]
 exact hX
theorem tD {S : St} {a b : AV} {l m : List Int} (H : Has fns) (ha : bS .i64 S a l) (hb : bS .i64 S b m) (hl : l.length ≤ 10000000) : iQ fns (.fn 19 [] []) [a, b] S fun r S' => r = .bool (decide (l = m)) ∧ Same S S' :=
 aES H ha hb (by omega)
end Go.Ev.Gl
namespace Go.Ev.Gl
variable {fns : T cA}
def aAv (S S' : St) (v : AV) (l : List Int) : Prop := ∃ b, v = .sl b 0 l.length l.length false ∧ S.nx ≤ b ∧ b < S'.nx ∧ S'.h.get b = some (.cells (bD l) false 0)
theorem aAv.is {S S' : St} {v : AV} {l : List Int} (h : aAv S S' v l) : bS .i64 S' v l := by
 obtain ⟨b, rfl, h1, h2, h3⟩ := h
 exact aBy h3 h2 rfl
theorem xT (n : Nat) : repeatL [AV.int .i64 0] n = bD (List.replicate n 0) := by rw [repeatL_one]; simp [bD]
theorem aEZ {l m : List Int} (hl : l.length = m.length) (h : ∀ j, j < m.length → l.getD j 0 = m.getD j 0) : l = m := by
 refine List.ext_getElem hl fun j j1 j2 => ?_
 have := h j j2
 rw [List.getD_eq_getElem?_getD, List.getD_eq_getElem?_getD, List.getElem?_eq_getElem j1, List.getElem?_eq_getElem j2] at this
 exact this
def aDd (S : St) (rb n : Nat) (f : Nat → Int) (P : Fr → Nat → Prop) (k : Nat) (A : bT) (X : St) : Prop := A.inr = false ∧ Same S X ∧ rb < X.nx ∧ ∃ (i : Nat) (l : List Int), i + k = n ∧ l.length = n ∧ (∀ j, j < i → l.getD j 0 = f j) ∧ X.h.get rb = some (.cells (bD l) false 0) ∧ P A.F i
theorem rS {S : St} {n : Nat} (H : Has fns) (hn : n ≤ 1000000) : iQ fns (.fn 155 [] []) [.int .i64 (n : Int)] S fun r S' => aAv S S' r (List.replicate n (-1)) ∧ Same S S' := by
 refine cW H.f155 (by simp) ?_
 simp only [↓aJ,aH,rE,↓reduceIte, rA]
 refine cI ?_
 simp only [↓aJ,aH,rE,↓reduceIte, rA]
 refine cI ?_
 simp only [↓aJ,aH,rE,↓reduceIte, rA]
 refine kH (tA (n := n) (by simp only [↓aJ,aH,rE,↓reduceIte, rA, aL]) (by simp only [↓aJ,aH,rE,↓reduceIte, rA, aL]) (by unfold room; omega) (by unfold room; omega)) ?_
 intro S1 s1 n1 c1
 rw [xT] at c1
 simp only [↓aJ,aH,rE,↓reduceIte, rA]
 refine aE (bP (Q := fun o A' X => o = .normal ∧ aDd S S.nx n (fun _ => -1) (fun F i => aC 3 F = .sl S.nx 0 n n false ∧ aC 8 F = .int .i64 (n : Int) ∧ aC 9 F = .int .i64 (i : Int)) 0 A' X) (aE (aR ?_)) ?_)
 ·have e0 : mB (.sl S.nx 0 n n false) = some (.int .i64 (n : Int)) := rfl
  simp only [↓aJ,aH,rE,↓reduceIte, rA, e0]
  refine bE (cS (aDd S S.nx n (fun _ => -1) (fun F i => aC 3 F = .sl S.nx 0 n n false ∧ aC 8 F = .int .i64 (n : Int) ∧ aC 9 F = .int .i64 (i : Int))) ?_ n _ _ ⟨rfl, s1, by omega, 0, _, by omega, List.length_replicate .., fun j hj => by omega, c1, by simp only [↓aJ,aH,rE,↓reduceIte, rA], by simp only [↓aJ,aH,rE,↓reduceIte, rA], by simp only [↓aJ,aH,rE,↓reduceIte, rA]⟩)
  rintro k ⟨F, inr⟩ X ⟨q0, hX, hb, i, l, hik, hl, hf, hc, p3, p8, p9⟩
  simp only at q0 p3 p8 p9
  subst q0
  refine cI ?_
  simp only [↓aJ,aH,rE,↓reduceIte, rA, p8, p9]
  by_cases hlt : i < n
  ·refine aE (bB (by simp only [↓aJ,aH,rE,↓reduceIte, rA, decide_eq_true (show (i : Int) < (n : Int) by omega)]) (aO ?_))
   try simp only [↓aJ,aH,rE,↓reduceIte, rA]
   have w1 : IntKind.i64.wrap ((i : Int) + 1) = ((i + 1 : Nat) : Int) := by rw [wrap_i64 (by omega) (by omega)]; omega
   have hia := gN (b := S.nx) (o := false) hlt
   refine aE (bE (aE (aR ?_)))
   simp only [↓aJ,aH,rE,↓reduceIte, rA, p9]
   refine aR ?_
   simp only [↓aJ,aH,rE,↓reduceIte, rA, p3, aL, hia]
   rw [show Int.negSucc 0 = (-1 : Int) from rfl]
   refine fZ (fun call => by simp only [↓aJ,aH,rE,↓reduceIte, rA, dT, cV]; exact aAd (S := X) hc (by rw [hl]; exact hlt)) ?_
   simp only [↓aJ,aH,rE,↓reduceIte, rA]
   refine aR ?_
   simp only [↓aJ,aH,rE,↓reduceIte, rA, p9, w1]
   refine ⟨k - 1, by omega, rfl, hX.put (Nat.le_refl _) _, hb, i + 1, l.set i (-1), by omega, by rw [List.length_set]; exact hl, fun j hj => ?_, by simp only; rw [T.get_set, if_pos rfl], by simp only [↓aJ,aH,rE,↓reduceIte, rA, p3], by simp only [↓aJ,aH,rE,↓reduceIte, rA, p8], by simp only [↓aJ,aH,rE,↓reduceIte, rA]⟩
   rw [iD (by rw [hl]; exact hlt)]
   split
   ·rfl
   ·exact hf j (by omega)
  ·refine aE (aX (by simp only [↓aJ,aH,rE,↓reduceIte, rA, decide_eq_false (show ¬ (i : Int) < (n : Int) by omega)]) (cL ?_))
   simp only [↓aJ,aH,rE,↓reduceIte, rA]
   have hk0 : k = 0 := by omega
   subst hk0
   exact ⟨rfl, hX, hb, i, l, hik, hl, hf, hc, by simp only [↓aJ,aH,rE,↓reduceIte, rA, p3], by simp only [↓aJ,aH,rE,↓reduceIte, rA, p8], by simp only [↓aJ,aH,rE,↓reduceIte, rA, p9]⟩
 rintro o ⟨F, inr⟩ X ⟨rfl, q0, hX, hb, i, l, hik, hl, hf, hc, p3, p8, p9⟩
 simp only at q0 p3
 subst q0
 have el : l = List.replicate n (-1) := aEZ (by rw [hl, List.length_replicate]) fun j hj => by
  rw [List.length_replicate] at hj
  rw [hf j (by omega), List.getD_eq_getElem?_getD, List.getElem?_replicate, if_pos hj]
  rfl
 subst el
 try simp only [↓aJ,aH,rE,↓reduceIte, rA]
 refine cI ?_
 simp only [↓aJ,aH,rE,↓reduceIte, rA, p3]
 refine aY ?_
 simp only [↓aJ,aH,rE,↓reduceIte, rA]
 exact ⟨⟨S.nx, by rw [List.length_replicate], Nat.le_refl _, hb, hc⟩, hX⟩
def eS (a b : List Int) : List Int := a.map fun x => b.getD x.toNat 0
def aAN (a : List Int) (n : Nat) : Prop := ∀ x ∈ a, 0 ≤ x ∧ x < n
theorem jR {a b : List Int} {i : Nat} (hi : i < a.length) : (eS a b).getD i 0 = b.getD (a.getD i 0).toNat 0 := by
 unfold eS
 rw [List.getD_eq_getElem?_getD, List.getElem?_map, List.getElem?_eq_getElem hi, List.getD_eq_getElem?_getD (l := a), List.getElem?_eq_getElem hi]
 rfl
theorem aHt {S : St} {av bv : AV} {a b : List Int} (H : Has fns) (ha : bS .i64 S av a) (hb : bS .i64 S bv b) (hl : a.length ≤ 1000000) (hin : aAN a b.length) : iQ fns (.fn 70 [] []) [av, bv] S fun r S' => aAv S S' r (eS a b) ∧ Same S S' := by
 refine cW H.f70 (by simp) ?_
 simp only [↓aJ,aH,rE,↓reduceIte, rA]
 refine cI ?_
 simp only [↓aJ,aH,rE,↓reduceIte, rA]
 refine cI ?_
 simp only [↓aJ,aH,rE,↓reduceIte, rA, ha.len, Int.ofNat_eq_natCast]
 refine kH (tA (n := a.length) (by simp only [↓aJ,aH,rE,↓reduceIte, rA, aL]) (by simp only [↓aJ,aH,rE,↓reduceIte, rA, aL]) (by unfold room; omega) (by unfold room; omega)) ?_
 intro S1 s1 n1 c1
 rw [xT] at c1
 simp only [↓aJ,aH,rE,↓reduceIte, rA]
 refine aE (bP (Q := fun o A' X => o = .normal ∧ aDd S S.nx a.length (fun j => b.getD (a.getD j 0).toNat 0) (fun F i => aC 1 F = bv ∧ aC 5 F = .sl S.nx 0 a.length a.length false ∧ aC 11 F = av ∧ aC 12 F = .int .i64 ((a.length : Nat) : Int) ∧ aC 13 F = .int .i64 (i : Int)) 0 A' X) (aE (aR ?_)) ?_)
 ·simp only [↓aJ,aH,rE,↓reduceIte, rA, ha.len, Int.ofNat_eq_natCast]
  refine bE (cS (aDd S S.nx a.length (fun j => b.getD (a.getD j 0).toNat 0) (fun F i => aC 1 F = bv ∧ aC 5 F = .sl S.nx 0 a.length a.length false ∧ aC 11 F = av ∧ aC 12 F = .int .i64 ((a.length : Nat) : Int) ∧ aC 13 F = .int .i64 (i : Int))) ?_ a.length _ _ ⟨rfl, s1, by omega, 0, _, by omega, List.length_replicate .., fun j hj => by omega, c1, by simp only [↓aJ,aH,rE,↓reduceIte, rA], by simp only [↓aJ,aH,rE,↓reduceIte, rA], by simp only [↓aJ,aH,rE,↓reduceIte, rA], by simp only [↓aJ,aH,rE,↓reduceIte, rA], by simp only [↓aJ,aH,rE,↓reduceIte, rA]⟩)
  rintro k ⟨F, inr⟩ X ⟨q0, hX, hbX, i, l, hik, hl', hf, hc, p1, p5, p11, p12, p13⟩
  simp only at q0 p1 p5 p11 p12 p13
  subst q0
  refine cI ?_
  simp only [↓aJ,aH,rE,↓reduceIte, rA, p12, p13]
  by_cases hlt : i < a.length
  ·refine aE (bB (by simp only [↓aJ,aH,rE,↓reduceIte, rA, decide_eq_true (show (i : Int) < ((a.length : Nat) : Int) by omega)]) (aO ?_))
   try simp only [↓aJ,aH,rE,↓reduceIte, rA]
   have w1 : IntKind.i64.wrap ((i : Int) + 1) = ((i + 1 : Nat) : Int) := by rw [wrap_i64 (by omega) (by omega)]; omega
   have hia := gN (b := S.nx) (o := false) hlt
   have ia := (ha.same hX).iaddr hlt
   have la := (ha.same hX).ld hlt
   have hmem : a.getD i 0 ∈ a := by rw [List.getD_eq_getElem?_getD, List.getElem?_eq_getElem hlt]; exact List.getElem_mem hlt
   obtain ⟨x0, x1⟩ := hin _ hmem
   have hfi : (fun j => b.getD (a.getD j 0).toNat 0) i = b.getD (a.getD i 0).toNat 0 := rfl
   generalize hxx : a.getD i 0 = x at *
   obtain ⟨m, rfl⟩ : ∃ m : Nat, x = (m : Int) := ⟨x.toNat, by omega⟩
   have hm : m < b.length := by omega
   have ib := (hb.same hX).iaddr hm
   have lb := (hb.same hX).ld hm
   refine aE (bE (aE (aR ?_)))
   simp only [↓aJ,aH,rE,↓reduceIte, rA, p11, p13, aL, ia, la]
   refine aR ?_
   simp only [↓aJ,aH,rE,↓reduceIte, rA, p1, p5, aL, hia, ib, lb]
   refine fZ (fun call => by simp only [↓aJ,aH,rE,↓reduceIte, rA, dT, cV]; exact aAd (S := X) hc (by rw [hl']; exact hlt)) ?_
   simp only [↓aJ,aH,rE,↓reduceIte, rA]
   refine aR ?_
   simp only [↓aJ,aH,rE,↓reduceIte, rA, p13, w1]
   refine ⟨k - 1, by omega, rfl, hX.put (Nat.le_refl _) _, hbX, i + 1, l.set i (b.getD m 0), by omega, by rw [List.length_set]; exact hl', fun j hj => ?_, by simp only; rw [T.get_set, if_pos rfl], by simp only [↓aJ,aH,rE,↓reduceIte, rA, p1], by simp only [↓aJ,aH,rE,↓reduceIte, rA, p5], by simp only [↓aJ,aH,rE,↓reduceIte, rA, p11], by simp only [↓aJ,aH,rE,↓reduceIte, rA, p12], by simp only [↓aJ,aH,rE,↓reduceIte, rA]⟩
   rw [iD (by rw [hl']; exact hlt)]
   split
   ·rename_i e; rw [e, hfi]; rfl
   ·exact hf j (by omega)
  ·refine aE (aX (by simp only [↓aJ,aH,rE,↓reduceIte, rA, decide_eq_false (show ¬ (i : Int) < ((a.length : Nat) : Int) by omega)]) (cL ?_))
   simp only [↓aJ,aH,rE,↓reduceIte, rA]
   have hk0 : k = 0 := by omega
   subst hk0
   exact ⟨rfl, hX, hbX, i, l, hik, hl', hf, hc, by simp only [↓aJ,aH,rE,↓reduceIte, rA, p1], by simp only [↓aJ,aH,rE,↓reduceIte, rA, p5], by simp only [↓aJ,aH,rE,↓reduceIte, rA, p11], by simp only [↓aJ,aH,rE,↓reduceIte, rA, p12], by simp only [↓aJ,aH,rE,↓reduceIte, rA, p13]⟩
 rintro o ⟨F, inr⟩ X ⟨rfl, q0, hX, hbX, i, l, hik, hl', hf, hc, p1, p5, p11, p12, p13⟩
 simp only at q0 p5
 subst q0
 have ep : (eS a b).length = a.length := by simp [eS]
 have el : l = eS a b := aEZ (by rw [hl', ep]) fun j hj => by
  rw [ep] at hj
  rw [hf j (by omega), jR hj]
 subst el
 try simp only [↓aJ,aH,rE,↓reduceIte, rA]
 refine cI ?_
 simp only [↓aJ,aH,rE,↓reduceIte, rA, p5]
 refine aY ?_
 simp only [↓aJ,aH,rE,↓reduceIte, rA]
 exact ⟨⟨S.nx, by rw [ep], Nat.le_refl _, hbX, hc⟩, hX⟩
end Go.Ev.Gl
namespace Go.Ev.Gl
variable {fns : T cA}
def oW : List Int → Nat → Int → Int
 | [], _, _ => -1
 | x :: l, s, c => if x = c then (s : Int) else oW l (s + 1) c
theorem mK {c : Int} : ∀ {l : List Int} {s : Nat}, (oW l s c = -1 ∧ c ∉ l) ∨ ∃ k, oW l s c = ((s + k : Nat) : Int) ∧ l[k]? = some c ∧ ∀ j, j < k → l[j]? ≠ some c
 | [], s => .inl ⟨rfl, by simp⟩
 | x :: l, s => by
  simp only [oW]
  by_cases h : x = c
  ·rw [if_pos h]
   exact .inr ⟨0, rfl, by rw [h]; rfl, fun j hj => by omega⟩
  ·rw [if_neg h]
   rcases mK (c := c) (l := l) (s := s + 1) with ⟨h1, h2⟩ | ⟨k, h1, h2, h3⟩
   ·exact .inl ⟨h1, by rw [List.mem_cons]; rintro (e | e); exact h e.symm; exact h2 e⟩
   ·refine .inr ⟨k + 1, by rw [h1]; congr 1; omega, h2, fun j hj => ?_⟩
    cases j with
    | zero => simp only [List.getElem?_cons_zero, ne_eq, Option.some.injEq]; exact h
    | succ j => rw [List.getElem?_cons_succ]; exact h3 j (by omega)
end Go.Ev.Gl
namespace Go.Ev.Gl
variable {fns : T cA}
def aLl (h : T AB) (K : Nat) (l : jJ) : Prop := lM l.v (gP l.q l.F h) = true ∧ l.i < K ∧ Nat.testBit l.mask K = false
theorem xY {h : T AB} {base K : Nat} {rest : List AO} {Q : DS → Prop} : ∀ {pre : List AO} {i : Nat} {F : Fr} {S : St} {ls : List jJ}, S.h = h → i + pre.length = K → (∀ o ∈ pre, Nat.testBit o.mask K = false) → (∀ l ∈ ls, aLl h K l) →
  mD pre F h (fun F' => ∀ ls', (∀ l ∈ ls', aLl h K l) → vT fns rest K base ⟨F', S, [], [], ls'⟩ Q) → vT fns (pre ++ rest) i base ⟨F, S, [], [], ls⟩ Q
 | [], i, F, S, ls, h1, h2, _, h4, hr => by
  simp only [List.length_nil, Nat.add_zero] at h2
  subst h2
  exact hr ls h4
 | ⟨d, .q q, g, m⟩ :: l, i, F, S, ls, h1, h2, h3, h4, hr => by
  simp only [mD] at hr
  have h2' : i + 1 + l.length = K := by rw [List.length_cons] at h2; omega
  have h3' : ∀ o ∈ l, Nat.testBit o.mask K = false := fun o ho => h3 o (List.mem_cons_of_mem _ ho)
  have hm : Nat.testBit m K = false := h3 _ (List.mem_cons_self ..)
  have go : ∀ (_ : kE (gP q F h) fun v => (dG q = true → cN v v = true) ∧ mD l (cG d F v) h (fun F' => ∀ ls', (∀ l ∈ ls', aLl h K l) → vT fns rest K base ⟨F', S, [], [], ls'⟩ Q)), vT fns (⟨d, .q q, none, m⟩ :: (l ++ rest)) i base ⟨F, S, [], [], ls⟩ Q := by
   rintro ⟨v, hv, hs, hr⟩
   rw [iR]
   subst h1
   refine ⟨v, hv, xY rfl h2' h3' ?_ hr⟩
   cases hq : dG q with
   | false => exact h4
   | true =>
    rw [aG]
    intro l' hl'
    rcases List.mem_cons.1 hl' with rfl | hl'
    ·refine ⟨?_, by show i < K; omega, hm⟩
     show lM v (gP q F S.h) = true
     rw [hv, wF]
     exact hs hq
    ·exact h4 _ hl'
  cases g with
  | none => exact go (by rw [if_pos (show dW none F = true from rfl)] at hr; exact hr)
  | some g =>
   obtain ⟨s, b⟩ := g
   by_cases hw : dW (some (s, b)) F = true
   ·rw [if_pos hw] at hr
    obtain ⟨n, D', e1, e2⟩ := go hr
    refine ⟨n, D', ?_, e2⟩
    have : pG ⟨d, .q q, some (s, b), m⟩ i base (ev fns n).call ⟨F, S, [], [], ls⟩ = pG ⟨d, .q q, none, m⟩ i base (ev fns n).call ⟨F, S, [], [], ls⟩ := by
     show bO (dW (some (s, b)) F) _ _ = bO true _ _
     rw [hw]; rfl
    show aU (pG ⟨d, .q q, some (s, b), m⟩ i base (ev fns n).call ⟨F, S, [], [], ls⟩) _ = _
    rw [this]; exact e1
   ·rw [if_neg hw] at hr
    obtain ⟨n, D', e1, e2⟩ := xY (i := i + 1) (F := cG d F .undef) (ls := ls) h1 h2' h3' h4 hr
    refine ⟨n, D', ?_, e2⟩
    have : pG ⟨d, .q q, some (s, b), m⟩ i base (ev fns n).call ⟨F, S, [], [], ls⟩ = some ⟨cG d F .undef, S, [], [], ls⟩ := by
     show bO (dW (some (s, b)) F) _ _ = _
     rw [show dW (some (s, b)) F = false by simpa using hw]; rfl
    show aU (pG ⟨d, .q q, some (s, b), m⟩ i base (ev fns n).call ⟨F, S, [], [], ls⟩) _ = _
    rw [this]; exact e1
 | ⟨d, .a a, g, m⟩ :: l, i, F, S, ls, h1, h2, h3, h4, hr => by cases hr
 | ⟨d, .x a, g, m⟩ :: l, i, F, S, ls, h1, h2, h3, h4, hr => by cases hr
theorem aKf {ops pre : List AO} {K m n : Nat} {x v : cH} {A : bT} {S : St} {Q : Out → bT → St → Prop} (he : ops = pre ++ [⟨none, .x (.st n x v), none, m⟩]) (hK : pre.length = K) (h3 : ∀ o ∈ pre, Nat.testBit o.mask K = false) (hm : ∀ i, i < K → Nat.testBit m i = true)
  (h : mD pre A.F S.h fun F' => ∃ S1, aU (v.val F').cells (fun cs => oH (x.val F') n cs ⟨S.h, S.nx + (K + 1)⟩) = some (.undef, S1) ∧ Q .normal ⟨F', A.inr⟩ S1) : lZ fns (.drw ops) A S Q := by
 subst he
 have hlen : (pre ++ [(⟨none, .x (.st n x v), none, m⟩ : AO)]).length = K + 1 := by simp [hK]
 refine rT ?_
 rw [hlen]
 refine xY (h := S.h) (K := K) (pre := pre) (i := 0) rfl (by omega) h3 (fun l hl => by cases hl) ?_
 have mono : ∀ {P P' : Fr → Prop}, (∀ F, P F → P' F) → ∀ (l : List AO) (F : Fr), mD l F S.h P → mD l F S.h P' := fun {P P'} hP l => by
  induction l with
  | nil => intro F h; exact hP F h
  | cons o l ih =>
   intro F h
   obtain ⟨d, op, g, mm⟩ := o
   cases op with
   | q q =>
    simp only [mD] at h ⊢
    split at h
    ·rename_i hw
     rw [if_pos hw]
     obtain ⟨w, hw1, hw2, hw3⟩ := h
     exact ⟨w, hw1, hw2, ih _ hw3⟩
    ·rename_i hw
     rw [if_neg hw]
     exact ih _ h
   | a a => cases h
   | x a => cases h
 refine mono ?_ pre A.F h
 rintro F' ⟨S1, e1, hQ⟩ ls hls
 refine kL (v := .undef) (S1 := S1) rfl (fun call => by rw [dT]; exact e1) ?_
 rw [jQ]
 refine ⟨?_, ?_⟩
 ·simp only [List.reverse_cons, List.reverse_nil, List.nil_append]
  refine lE fun l hl => ?_
  obtain ⟨h1, h2, h4⟩ := hls l hl
  unfold eG
  rw [h4, aM, h1, aG, hm _ h2, aG]
 ·exact hQ
end Go.Ev.Gl
namespace Go.Ev.Gl
variable {fns : T cA}
def jD (T : List cK) (j : Nat) : Option Int := (T[j]?).map (·.1)
def CF (nx : Nat → List Int) (a : Nat) (T : List cK) : Prop := ∀ j, j < T.length → ∀ c ∈ nx (a + j), ((a + j : Nat) : Int) < c ∧ c < ((a + T.length : Nat) : Int) ∧ jD T (c.toNat - a) = some ((a + j : Nat) : Int)
def PF (nx : Nat → List Int) (a : Nat) (T : List cK) (j : Nat) : Prop := ∃ q, q < j ∧ jD T j = some ((a + q : Nat) : Int) ∧ ((a + j : Nat) : Int) ∈ nx (a + q)
def aHf (nx : Nat → List Int) (a : Nat) (T : List cK) : Prop := ∀ j, j < T.length → (nx (a + j)).Pairwise (· < ·)
structure WF (nx : Nat → List Int) (a : Nat) (p : Int) (T : List cK) : Prop where
 pos : 0 < T.length
 root : jD T 0 = some p
 cf : CF nx a T
 pf : ∀ j, 0 < j → j < T.length → PF nx a T j
 inc : aHf nx a T
structure KF (nx : Nat → List Int) (r : Nat) (p : Int) (l : List Int) (L : List cK) : Prop where
 cf : CF nx r L
 kid : ∀ c ∈ l, ((r : Nat) : Int) ≤ c ∧ c < ((r + L.length : Nat) : Int) ∧ jD L (c.toNat - r) = some p
 pf : ∀ j, j < L.length → (jD L j = some p ∧ ((r + j : Nat) : Int) ∈ l) ∨ PF nx r L j
 inc : aHf nx r L
 up : l.Pairwise (· < ·)
theorem qV {L1 L2 : List cK} {j : Nat} (h : j < L1.length) : jD (L1 ++ L2) j = jD L1 j := by unfold jD; rw [List.getElem?_append_left h]
theorem oN {L1 L2 : List cK} {j : Nat} (h : L1.length ≤ j) : jD (L1 ++ L2) j = jD L2 (j - L1.length) := by unfold jD; rw [List.getElem?_append_right h]
theorem CF.append {nx : Nat → List Int} {r : Nat} {L1 L2 : List cK} (h1 : CF nx r L1) (h2 : CF nx (r + L1.length) L2) : CF nx r (L1 ++ L2) := fun j hj c hc => by
 rw [List.length_append] at hj ⊢
 by_cases h : j < L1.length
 ·obtain ⟨a, b, d⟩ := h1 j h c hc
  exact ⟨a, by omega, by rw [qV (by omega)]; exact d⟩
 ·have e : r + j = r + L1.length + (j - L1.length) := by omega
  rw [e] at hc
  obtain ⟨a, b, d⟩ := h2 (j - L1.length) (by omega) c hc
  refine ⟨by omega, by omega, ?_⟩
  rw [oN (by omega), show c.toNat - r - L1.length = c.toNat - (r + L1.length) by omega, d, e]
theorem PF.left {nx : Nat → List Int} {r j : Nat} {L1 L2 : List cK} (h : PF nx r L1 j) (hj : j < L1.length) : PF nx r (L1 ++ L2) j := by
 obtain ⟨q, h1, h2, h3⟩ := h
 exact ⟨q, h1, by rw [qV hj]; exact h2, h3⟩
theorem PF.right {nx : Nat → List Int} {r j : Nat} {L1 L2 : List cK} (h : PF nx (r + L1.length) L2 (j - L1.length)) (hj : L1.length ≤ j) : PF nx r (L1 ++ L2) j := by
 obtain ⟨q, h1, h2, h3⟩ := h
 refine ⟨L1.length + q, by omega, ?_, ?_⟩
 ·rw [oN hj, h2, show r + L1.length + q = r + (L1.length + q) by omega]
 ·rw [show r + (L1.length + q) = r + L1.length + q by omega, show r + j = r + L1.length + (j - L1.length) by omega]
  exact h3
theorem aHf.append {nx : Nat → List Int} {r : Nat} {L1 L2 : List cK} (h1 : aHf nx r L1) (h2 : aHf nx (r + L1.length) L2) : aHf nx r (L1 ++ L2) := fun j hj => by
 rw [List.length_append] at hj
 by_cases h : j < L1.length
 ·exact h1 j h
 ·rw [show r + j = r + L1.length + (j - L1.length) by omega]
  exact h2 (j - L1.length) (by omega)
theorem aBK {rec : Nat → Option (List cK)} {nx : Nat → List Int} {p : Int} (hr : ∀ r L, rec r = some L → WF nx r p L) : ∀ {l : List Int} {r : Nat} {L : List cK}, fF rec l r = some L → KF nx r p l L
 | [], r, L, h => by
  simp only [fF, Option.some.injEq] at h
  subst h
  exact ⟨fun j hj => by simp at hj, fun c hc => by simp at hc, fun j hj => by simp at hj, fun j hj => by simp at hj, .nil⟩
 | c :: l, r, L, h => by
  simp only [fF] at h
  split at h
  ·rename_i hc
   obtain ⟨L1, h1, h2⟩ := Option.bind_eq_some_iff.1 h
   obtain ⟨L2, h3, rfl⟩ := Option.map_eq_some_iff.1 h2
   have w := hr r L1 h1
   have k := aBK hr h3
   have hp := w.pos
   refine ⟨w.cf.append k.cf, fun c' hc' => ?_, fun j hj => ?_, w.inc.append k.inc, ?_⟩
   ·rw [List.length_append]
    rcases List.mem_cons.1 hc' with rfl | hc'
    ·rw [hc]
     refine ⟨by omega, by omega, ?_⟩
     rw [show ((r : Int)).toNat - r = 0 by omega, qV hp]
     exact w.root
    ·obtain ⟨a, b, d⟩ := k.kid c' hc'
     refine ⟨by omega, by omega, ?_⟩
     rw [oN (by omega), show c'.toNat - r - L1.length = c'.toNat - (r + L1.length) by omega]
     exact d
   ·rw [List.length_append] at hj
    by_cases h : j < L1.length
    ·by_cases j0 : j = 0
     ·subst j0
      exact .inl ⟨by rw [qV h]; exact w.root, by rw [Nat.add_zero, hc]; exact List.mem_cons_self ..⟩
     ·exact .inr ((w.pf j (by omega) h).left h)
    ·rcases k.pf (j - L1.length) (by omega) with ⟨h4, h5⟩ | h4
     ·exact .inl ⟨by rw [oN (by omega)]; exact h4, List.mem_cons_of_mem _ (by rw [show r + j = r + L1.length + (j - L1.length) by omega]; exact h5)⟩
     ·exact .inr (PF.right h4 (by omega))
   ·refine List.pairwise_cons.2 ⟨fun c' hc' => ?_, k.up⟩
    have := (k.kid c' hc').1
    omega
  ·cases h
theorem mF {N : Nat} {nx : Nat → List Int} : ∀ {f at_ : Nat} {p d : Int} {T : List cK}, eR N nx f at_ p d = some T → WF nx at_ p T
 | 0, at_, p, d, T, h => by cases h
 | f + 1, at_, p, d, T, h => by
  simp only [eR] at h
  split at h
  ·obtain ⟨L, h1, rfl⟩ := Option.map_eq_some_iff.1 h
   have k := aBK (p := (at_ : Int)) (fun r L hr => mF hr) h1
   have ps : ∀ j, jD ((p, d, ((at_ + L.length : Nat) : Int)) :: L) (j + 1) = jD L j := fun j => by unfold jD; rw [List.getElem?_cons_succ]
   refine ⟨by simp, rfl, fun j hj c hc => ?_, fun j j0 hj => ?_, fun j hj => ?_⟩
   ·rw [List.length_cons] at hj ⊢
    cases j with
    | zero =>
     rw [Nat.add_zero] at hc ⊢
     obtain ⟨a, b, e⟩ := k.kid c hc
     refine ⟨by omega, by omega, ?_⟩
     rw [show c.toNat - at_ = (c.toNat - (at_ + 1)) + 1 by omega, ps]
     exact e
    | succ j =>
     rw [show at_ + (j + 1) = at_ + 1 + j by omega] at hc ⊢
     obtain ⟨a, b, e⟩ := k.cf j (by omega) c hc
     refine ⟨by omega, by omega, ?_⟩
     rw [show c.toNat - at_ = (c.toNat - (at_ + 1)) + 1 by omega, ps]
     exact e
   ·rw [List.length_cons] at hj
    cases j with
    | zero => omega
    | succ j =>
     rcases k.pf j (by omega) with ⟨a, b⟩ | ⟨q, a, b, e⟩
     ·exact ⟨0, by omega, by rw [ps, a]; rfl, by rw [Nat.add_zero, show at_ + (j + 1) = at_ + 1 + j by omega]; exact b⟩
     ·refine ⟨q + 1, by omega, ?_, ?_⟩
      ·rw [ps, b, show at_ + 1 + q = at_ + (q + 1) by omega]
      ·rw [show at_ + (q + 1) = at_ + 1 + q by omega, show at_ + (j + 1) = at_ + 1 + j by omega]
       exact e
   ·rw [List.length_cons] at hj
    cases j with
    | zero => exact k.up
    | succ j =>
     rw [show at_ + (j + 1) = at_ + 1 + j by omega]
     exact k.inc j (by omega)
  ·cases h
end Go.Ev.Gl
namespace Go.Ev.Gl
variable {fns : T cA}
theorem qN {ops pre : List AO} {K m n : Nat} {x v : cH} {A : bT} {S : St} {Q : Out → bT → St → Prop} (he : ops = pre ++ [⟨none, .x (.st n x v), none, m⟩]) (hK : pre.length = K) (h3 : (pre.all fun o => !Nat.testBit o.mask K) = true) (hm : ((List.range K).all fun i => Nat.testBit m i) = true)
  (h : mD pre A.F S.h fun F' => ∃ S1, aU (v.val F').cells (fun cs => oH (x.val F') n cs ⟨S.h, S.nx + (K + 1)⟩) = some (.undef, S1) ∧ Q .normal ⟨F', A.inr⟩ S1) : lZ fns (.drw ops) A S Q := by
 refine aKf he hK (fun o ho => ?_) (fun i hi => ?_) h
 ·have := List.all_eq_true.1 h3 o ho
  simpa using this
 ·exact List.all_eq_true.1 hm i (List.mem_range.2 hi)
theorem aHn {W : Nat → Prop} {h0 : T AB} {base i : Nat} {l : List AO} {F : Fr} {S : St} {ps : List gI} {last : Option Nat} {Q : Fr → St → List gI → Prop} {d : Option Nat} {t : Nat} {x : cH} {cs : List AV} (hx : (x.val F).cells = some cs)
  (hr : fH fns W h0 base l (i + 1) (cG d F (.ptr (base + i) 0)) S (⟨i, base + i, .cells cs false 0⟩ :: ps) last Q) : aFm fns W h0 base (sN (.box t x) F (base + i)) d l i F S ps last Q := by
 rw [aGG, hx, aF, nM]
 exact hr
theorem bS.cells {k : IntKind} {S : St} {v : AV} {l : List Int} (h : bS k S v l) : v.cells = some [v] := by
 rcases h with ⟨_, rfl | rfl⟩ | ⟨b, off, cap, o, cs, rfl, _⟩ <;> rfl
def sL : List Int → Nat → List Int → List Int
 | [], _, r => r
 | c :: l, s, r => sL l (s + 1) (r.set c.toNat (s : Int))
def aCq (g : bG) : Nat → List Int → List Int
 | 0, r => r
 | i + 1, r => aCq g i (sL (dP g i) 0 r)
def kG (g : bG) : List Int := aCq g g.nodes.length (List.replicate g.nodes.length 0)
structure gT (S : St) (wb plb szb : Nat) (pv nv iv : AV) (g : bG) (R Z : List Int) : Prop where
 w : qF S wb g.players nv iv pv (.sl plb 0 g.nodes.length g.nodes.length false) (.sl szb 0 g.nodes.length g.nodes.length false)
 gp : S.h.get plb = some (.cells (bD R) false 0)
 gz : S.h.get szb = some (.cells (bD Z) false 0)
 lp : R.length = g.nodes.length
 lz : Z.length = g.nodes.length
 bp : plb < S.nx
 bz : szb < S.nx
theorem gT.setZ {X : St} {wb plb szb n : Nat} {pv nv iv : AV} {g : bG} {R Z Z' : List Int} (h : gT X wb plb szb pv nv iv g R Z) (n1 : wb ≠ szb) (n2 : plb ≠ szb) (hn : X.nx ≤ n) (hZ : Z'.length = g.nodes.length) : gT ⟨X.h.set szb (some (.cells (bD Z') false 0)), n⟩ wb plb szb pv nv iv g R Z' :=
 ⟨⟨by simp only; rw [T.get_set, if_neg n1]; exact h.w.1, Nat.lt_of_lt_of_le h.w.2 hn⟩, by simp only; rw [T.get_set, if_neg n2]; exact h.gp, by simp only; rw [T.get_set, if_pos rfl], h.lp, hZ, Nat.lt_of_lt_of_le h.bp hn, Nat.lt_of_lt_of_le h.bz hn⟩
theorem gT.setP {X : St} {wb plb szb n : Nat} {pv nv iv : AV} {g : bG} {R R' Z : List Int} (h : gT X wb plb szb pv nv iv g R Z) (n1 : wb ≠ plb) (n2 : plb ≠ szb) (hn : X.nx ≤ n) (hR : R'.length = g.nodes.length) : gT ⟨X.h.set plb (some (.cells (bD R') false 0)), n⟩ wb plb szb pv nv iv g R' Z :=
 ⟨⟨by simp only; rw [T.get_set, if_neg n1]; exact h.w.1, Nat.lt_of_lt_of_le h.w.2 hn⟩, by simp only; rw [T.get_set, if_pos rfl], by simp only; rw [T.get_set, if_neg (Ne.symm n2)]; exact h.gz, hR, h.lz, Nat.lt_of_lt_of_le h.bp hn, Nat.lt_of_lt_of_le h.bz hn⟩
theorem oI.put {plb szb : Nat} {S X : St} {n b : Nat} {v : Option AB} (h : oI plb szb szb S X) (hb : b = plb ∨ b = szb) (hn : X.nx ≤ n) : oI plb szb szb S ⟨X.h.set b v, n⟩ := ⟨Nat.le_trans h.1 hn, fun c hc h1 h2 h3 => by
 simp only
 rw [T.get_set, if_neg (by rcases hb with rfl | rfl <;> assumption)]
 exact h.2 c hc h1 h2 h3⟩
theorem aHX {P : Ev.T AB → Prop} {h : Ev.T AB} {b1 b2 b3 : Nat} {c1 z : Option AB} (n1 : b1 ≠ b2) (n2 : b1 ≠ b3) (n3 : b2 ≠ b3) (H : ∀ h' : Ev.T AB, h'.get b1 = c1 → h'.get b2 = z → h'.get b3 = z → (∀ c, c ≠ b1 → c ≠ b2 → c ≠ b3 → h'.get c = h.get c) → P h') : P (((h.set b1 c1).set b2 z).set b3 z) := by
 refine H _ ?_ ?_ ?_ fun c h1 h2 h3 => ?_
 ·rw [T.get_set, if_neg n2, T.get_set, if_neg n1, T.get_set, if_pos rfl]
 ·rw [T.get_set, if_neg n3, T.get_set, if_pos rfl]
 ·rw [T.get_set, if_pos rfl]
 ·rw [T.get_set, if_neg h3, T.get_set, if_neg h2, T.get_set, if_neg h1]
theorem aGW {hi : Int} : ∀ {l : List Int} {lo : Int}, l.Pairwise (· < ·) → (∀ c ∈ l, lo ≤ c ∧ c < hi) → l.length ≤ (hi - lo).toNat
 | [], lo, _, _ => by simp
 | c :: l, lo, h, hb => by
  obtain ⟨h1, h2⟩ := List.pairwise_cons.1 h
  have hc := hb c (List.mem_cons_self ..)
  have := aGW (lo := c + 1) h2 fun c' hc' => ⟨by have := h1 c' hc'; omega, (hb c' (List.mem_cons_of_mem _ hc')).2⟩
  rw [List.length_cons]
  omega
noncomputable def aK4 : List AO := [⟨(some 47),(.q (.mv (.t 7))),none,0⟩,
⟨(some 48),(.q (.nilchk (.t 47))),none,1⟩,
⟨(some 49),(.q (.faddr 5 (.t 48))),none,3⟩,
⟨(some 50),(.q (.ld false 1 (.t 49))),none,7⟩,
⟨(some 51),(.q (.mv (.t 4))),none,0⟩,
⟨(some 52),(.q (.mv (.t 8))),none,0⟩,
⟨(some 53),(.q (.iaddr (.slice 1) (.t 51) (.t 52))),none,48⟩,
⟨(some 54),(.q (.ld false 1 (.t 53))),none,112⟩,
⟨(some 55),(.q (.iaddr (.slice 1) (.t 50) (.t 54))),none,255⟩,
⟨(some 56),(.q (.ld false 1 (.t 55))),none,511⟩,
⟨(some 57),(.q (.mv (.t 7))),none,0⟩,
⟨(some 58),(.q (.nilchk (.t 57))),none,1024⟩,
⟨(some 59),(.q (.faddr 5 (.t 58))),none,3072⟩,
⟨(some 60),(.q (.ld false 1 (.t 59))),none,7168⟩,
⟨(some 61),(.q (.mv (.t 8))),none,0⟩,
⟨(some 62),(.q (.iaddr (.slice 1) (.t 60) (.t 61))),none,31744⟩,
⟨(some 63),(.q (.ld false 1 (.t 62))),none,64512⟩,
⟨(some 64),(.q (.bin .add (.p .int) (.t 56) (.t 63))),none,131071⟩,
⟨(some 65),(.q (.iaddr (.slice 1) (.t 50) (.t 54))),none,262143⟩]
def szS (T : List cK) (i : Nat) (Z : List Int) : List Int := if 0 < i then (Z.set i (IntKind.i64.wrap (Z.getD i 0 + 1))).set ((T.map fun t : cK => t.1).getD i 0).toNat (IntKind.i64.wrap ((Z.set i (IntKind.i64.wrap (Z.getD i 0 + 1))).getD ((T.map fun t : cK => t.1).getD i 0).toNat 0 + (Z.set i (IntKind.i64.wrap (Z.getD i 0 + 1))).getD i 0)) else Z.set i (IntKind.i64.wrap (Z.getD i 0 + 1))
def szG (T : List cK) : Nat → List Int → List Int
 | 0, Z => Z
 | i + 1, Z => szG T i (szS T i Z)
def szL (T : List cK) (n : Nat) : List Int := szG T n (List.replicate n 0)
def aMV (Z0 : St) (gb wb plb szb : Nat) (pv nv iv : AV) (g : bG) (T : List cK) (k : Nat) (A : bT) (X : St) : Prop := A.inr = false ∧ oI plb szb szb Z0 X ∧ ∃ R Z, gT X wb plb szb pv nv iv g R Z ∧ k ≤ g.nodes.length ∧ aCq g k R = kG g ∧ szG T k Z = szL T g.nodes.length ∧ aC 1 A.F = .ptr gb 0 ∧ aC 4 A.F = pv ∧ aC 7 A.F = .ptr wb 0 ∧ aC 8 A.F = .int .i64 ((k : Int) - 1)
def aMu (Z0 : St) (gb wb plb szb : Nat) (pv nv iv a : AV) (g : bG) (i : Nat) (next Z : List Int) (k : Nat) (A : bT) (X : St) : Prop := A.inr = false ∧ oI plb szb szb Z0 X ∧ ∃ j R, gT X wb plb szb pv nv iv g R Z ∧ j + k = next.length ∧ aCq g i (sL (next.drop j) j R) = kG g ∧ aC 1 A.F = .ptr gb 0 ∧ aC 4 A.F = pv ∧ aC 7 A.F = .ptr wb 0 ∧ aC 8 A.F = .int .i64 (i : Int) ∧ aC 71 A.F = a ∧ aC 72 A.F = .int .i64 ((next.length : Nat) : Int) ∧ aC 73 A.F = .int .i64 (j : Int)
def aLJ (S S' : St) (p nv iv : AV) (g : bG) : Prop := ∃ (wb plb szb : Nat) (pv : AV) (T : List cK) (Z : List Int), p = .ptr wb 0 ∧ S.nx ≤ wb ∧ iC g = some T ∧ T.length = g.nodes.length ∧ bS .i64 S' pv (T.map (·.1)) ∧ gT S' wb plb szb pv nv iv g (kG g) Z
def aKQ (S S' : St) (p nv iv : AV) (g : bG) : Prop := ∃ (wb plb szb : Nat) (pv : AV) (T : List cK), p = .ptr wb 0 ∧ S.nx ≤ wb ∧ iC g = some T ∧ T.length = g.nodes.length ∧ bS .i64 S' pv (T.map (·.1)) ∧ gT S' wb plb szb pv nv iv g (kG g) (szL T g.nodes.length)
set_option maxHeartbeats 4000000 in
theorem aBd {S : St} {nv iv : AV} {g : bG} (H : Has fns) (hn : aQ 6 cO S nv g.nodes) (hi : aQ 2 dB S iv g.infos) (hln : g.nodes.length ≤ 100000) :
  iQ fns (.fn 68 [] []) [.agg [.int .i64 g.players, nv, iv]] S fun r S' => Same S S' ∧ ∃ p, r = .tup [p, .int .i64 (dF g)] ∧ (dF g = 0 → aKQ S S' p nv iv g) := by
 refine cW H.f68 (by simp) ?_
 simp only [↓sU,sD,rE,↓reduceIte,rA]
 refine cI ?_
 refine eY (by simp only [↓sU,sD,rE,↓reduceIte,rA]; exact bK _) ?_
 intro S1 s1 n1 c1
 simp only [↓sU,sD,rE,↓reduceIte,rA]
 refine cI ?_
 simp only [↓sU,sD,rE,↓reduceIte,rA, iY c1]
 refine bL ?_
 simp only [↓sU,sD,rE,↓reduceIte,rA]
 refine aW (aDJ H (aQ.same (E := cO) cB hn s1) (aQ.same (E := dB) cU hi s1) hln) ?_
 rintro _ X ⟨pv, rfl, hX, hP⟩
 simp only [↓sU,sD,rE,↓reduceIte,rA, ex0, ex1]
 refine kK ?_
 simp only [↓sU,sD,rE,↓reduceIte,rA]
 by_cases h0 : dF g = 0
 rotate_left
 ·refine bB (by simp only [↓sU,sD,rE,↓reduceIte,rA, decide_eq_true (show dF g ≠ 0 from h0)]) ?_
  refine cI ?_
  simp only [↓sU,sD,rE,↓reduceIte,rA]
  refine aY ?_
  simp only [↓sU,sD,rE,↓reduceIte,rA]
  exact ⟨s1.trans hX, _, rfl, fun h => absurd h h0⟩
 refine aX (by simp only [↓sU,sD,rE,↓reduceIte,rA, decide_eq_false (show ¬ dF g ≠ 0 from fun h => h h0)]) (aO ?_)
 try simp only [↓sU,sD,rE,↓reduceIte,rA]
 obtain ⟨T, hT, hTl, hpv⟩ := hP.2 h0
 have hwf := mF (show eR g.nodes.length (dP g) (g.nodes.length + 1) 0 (-1) 0 = some T from hT)
 have sX := s1.trans hX
 have lgX : S.nx < X.nx := by have := hX.1; omega
 have cX : X.h.get S.nx = some (.cells [.int .i64 g.players, nv, iv] false 0) := by rw [hX.2 _ (by omega)]; exact c1
 have sn := aQ.self hn
 have si := aQ.self hi
 have sg := aH0 (eU .i64 g.players) sn si
 refine cI ?_
 simp only [↓sU,sD,rE,↓reduceIte,rA, aB, aA, lI cX, hn.len]
 refine aE (oC (fun _ => False) ?_)
 intro X1 x1 hx1 hm1
 have hbd : ∀ (F : Fr) (h : Ev.T AB) (x y : AV), aC 22 F = .agg [.int .i64 g.players, nv, iv] → aC 23 F = pv → aC 25 F = x → aC 27 F = y → x.cells = some [x] → y.cells = some [y] → gP (.build [.int .i64 0, .nilsl, .nilsl, .nilsl, .nilsl, .nilsl] [(0, 3, .t 22), (3, 1, .t 23), (4, 1, .t 25), (5, 1, .t 27)]) F h = some (.agg [.int .i64 g.players, nv, iv, pv, x, y]) := fun F h x y h1 h2 h3 h4 h5 h6 => by
  show (aU (dY _ (dO F [(0, 3, .t 22), (3, 1, .t 23), (4, 1, .t 25), (5, 1, .t 27)])) fun cs => some (AV.agg cs)) = _
  simp only [dO, show (cH.t 22).val F = .agg [.int .i64 g.players, nv, iv] from h1, show (cH.t 23).val F = pv from h2, show (cH.t 25).val F = x from h3, show (cH.t 27).val F = y from h4, dY, bS.cells hpv, h5, h6, bK, aF]
  rfl
 simp only [↓sU,sD,rE,↓reduceIte,rA, aB, aN, aA, iY cX, lgX, not_false_eq_true, sg]
 refine qO (n := g.nodes.length) (by simp only [↓sU,sD,rE,↓reduceIte,rA, aL]) (by simp only [↓sU,sD,rE,↓reduceIte,rA, aL]) (by unfold room; omega) (by unfold room; omega) ?_
 simp only [↓sU,sD,rE,↓reduceIte,rA]
 refine qO (n := g.nodes.length) (by simp only [↓sU,sD,rE,↓reduceIte,rA, aL]) (by simp only [↓sU,sD,rE,↓reduceIte,rA, aL]) (by unfold room; omega) (by unfold room; omega) ?_
 have hbd' := fun (F : Fr) (h : Ev.T AB) h1 h2 h3 h4 => hbd F h (.sl (X.nx + 3) 0 g.nodes.length g.nodes.length false) (.sl (X.nx + 5) 0 g.nodes.length g.nodes.length false) h1 h2 h3 h4 rfl rfl
 simp only [↓sU,sD,rE,↓reduceIte,rA, lO, hbd']
 refine aHn (cs := [.int .i64 g.players, nv, iv, pv, .sl (X.nx + 3) 0 g.nodes.length g.nodes.length false, .sl (X.nx + 5) 0 g.nodes.length g.nodes.length false]) (by simp only [↓sU,sD,rE,↓reduceIte,rA]; exact bK _) ?_
 simp only [↓sU,sD,rE,↓reduceIte,rA]
 rw [xT, kN (show Nat.testBit (2 ^ 9 - 1) 7 = true by decide), kN (show Nat.testBit (2 ^ 9 - 1) 5 = true by decide), kN (show Nat.testBit (2 ^ 9 - 1) 3 = true by decide), bX]
 refine aHX (P := fun h' => lZ fns _ _ ⟨h', X1.nx⟩ _) (by omega) (by omega) (by omega) ?_
 intro Zh gw g5 g3 gr
 have hm1 : X1.nx = X.nx + 9 := hm1
 have sZ : Same S ⟨Zh, X1.nx⟩ := ⟨by show S.nx ≤ X1.nx; have := sX.1; omega, fun c hc => by
  have := sX.1
  show Zh.get c = S.h.get c
  rw [gr c (by omega) (by omega) (by omega), hx1]
  exact sX.2 c hc⟩
 have cZ : Zh.get S.nx = some (.cells [.int .i64 g.players, nv, iv] false 0) := by
  rw [gr _ (by omega) (by omega) (by omega), hx1]
  exact cX
 have hB : gT ⟨Zh, X1.nx⟩ (X.nx + 7) (X.nx + 3) (X.nx + 5) pv nv iv g (List.replicate g.nodes.length 0) (List.replicate g.nodes.length 0) := ⟨⟨gw, by show X.nx + 7 < X1.nx; omega⟩, g3, g5, List.length_replicate .., List.length_replicate .., by show _ < X1.nx; omega, by show _ < X1.nx; omega⟩
 have sXZ : Same X ⟨Zh, X1.nx⟩ := ⟨by show X.nx ≤ X1.nx; omega, fun c hc => by
  show Zh.get c = X.h.get c
  rw [gr c (by omega) (by omega) (by omega), hx1]⟩
 have lwS := sX.1
 generalize hZ : (⟨Zh, X1.nx⟩ : St) = Z0 at *
 have cZ : Z0.h.get S.nx = some (.cells [.int .i64 g.players, nv, iv] false 0) := by rw [← hZ]; exact cZ
 have lgZ : S.nx < Z0.nx := Nat.lt_of_lt_of_le lgX sXZ.1
 have n73 : X.nx + 7 ≠ X.nx + 3 := by omega
 have n75 : X.nx + 7 ≠ X.nx + 5 := by omega
 have n35 : X.nx + 3 ≠ X.nx + 5 := by omega
 have ng3 : S.nx ≠ X.nx + 3 := by omega
 have ng5 : S.nx ≠ X.nx + 5 := by omega
 have l3 : S.nx ≤ X.nx + 3 := by omega
 have l5 : S.nx ≤ X.nx + 5 := by omega
 have l7 : S.nx ≤ X.nx + 7 := by omega
 have lx3 : X.nx ≤ X.nx + 3 := by omega
 have lx5 : X.nx ≤ X.nx + 5 := by omega
 generalize hb7 : X.nx + 7 = wb at *
 generalize hb3 : X.nx + 3 = plb at *
 generalize hb5 : X.nx + 5 = szb at *
 have hcr : ∀ i, i < g.nodes.length → ∀ c ∈ dP g i, (i : Int) < c ∧ c < ((g.nodes.length : Nat) : Int) := fun i hi c hc => by
  have := hwf.cf i (by omega) c (by rw [Nat.zero_add]; exact hc)
  omega
 have hpr : ∀ i, 0 < i → i < g.nodes.length → ∃ q : Nat, q < i ∧ (T.map (·.1)).getD i 0 = (q : Int) := fun i h1 h2 => by
  obtain ⟨q, a, b, _⟩ := hwf.pf i h1 (by omega)
  refine ⟨q, a, ?_⟩
  rw [List.getD_eq_getElem?_getD, List.getElem?_map]
  unfold jD at b
  rw [b, Nat.zero_add]
  rfl
 have hN : g.nodes.length ≤ 100000 := hln
 have w0 : IntKind.i64.wrap (((g.nodes.length : Nat) : Int) - 1) = ((g.nodes.length : Nat) : Int) - 1 := wrap_i64 (by omega) (by omega)
 refine aE (bP (Q := fun o A' Y => o = .normal ∧ aMV Z0 S.nx wb plb szb pv nv iv g T 0 A' Y) (aE (aR ?_)) ?_)
 ·simp only [↓aJ,aH,rE,↓reduceIte, rA, w0]
  refine bE (cS (aMV Z0 S.nx wb plb szb pv nv iv g T) ?_ g.nodes.length _ _ ⟨rfl, oI.refl _ _ _ _, _, _, hB, Nat.le_refl _, rfl, rfl, by simp only [↓aJ,aH,rE,↓reduceIte, rA], by simp only [↓aJ,aH,rE,↓reduceIte, rA], by simp only [↓aJ,aH,rE,↓reduceIte, rA], by simp only [↓aJ,aH,rE,↓reduceIte, rA]⟩)
  rintro k ⟨F, inr⟩ Y ⟨q0, hY, R, Z, hB, hkN, hpl, hsz, p1, p4, p7, p8⟩
  simp only at q0 p1 p4 p7 p8
  subst q0
  refine kK ?_
  simp only [↓aJ,aH,rE,↓reduceIte, rA, p8]
  by_cases hk : 0 < k
  ·refine bB (by simp only [↓aJ,aH,rE,↓reduceIte, rA, decide_eq_true (show (0 : Int) ≤ (k : Int) - 1 by omega)]) (aO ?_)
   try simp only [↓aJ,aH,rE,↓reduceIte, rA]
   obtain ⟨i, rfl⟩ : ∃ i, k = i + 1 := ⟨k - 1, by omega⟩
   have e1 : (((i + 1 : Nat) : Int)) - 1 = (i : Int) := by omega
   rw [e1] at p8
   have hlt : i < g.nodes.length := by omega
   have hia := gN (b := szb) (o := false) hlt
   have hltZ : i < Z.length := by rw [hB.lz]; exact hlt
   have hz0 := cQ (p := i) (x := .int .i64 (Z.getD i 0)) hB.gz (by unfold bD; rw [List.getElem?_map, List.getElem?_eq_getElem hltZ, List.getD_eq_getElem?_getD, List.getElem?_eq_getElem hltZ]; rfl)
   refine aE (bE (aE (aR ?_)))
   simp only [↓aJ,aH,rE,↓reduceIte, rA, p7, p8, aS, aT, aB, aA, gK hB.w.1, aL, hia, hz0]
   refine fZ (fun call => by simp only [↓aJ,aH,rE,↓reduceIte, rA, dT, cV]; exact aAd (S := Y) hB.gz hltZ) ?_
   simp only [↓aJ,aH,rE,↓reduceIte, rA]
   have hS : szS T i Z = if 0 < i then (Z.set i (IntKind.i64.wrap (Z.getD i 0 + 1))).set ((T.map fun t : cK => t.1).getD i 0).toNat (IntKind.i64.wrap ((Z.set i (IntKind.i64.wrap (Z.getD i 0 + 1))).getD ((T.map fun t : cK => t.1).getD i 0).toNat 0 + (Z.set i (IntKind.i64.wrap (Z.getD i 0 + 1))).getD i 0)) else Z.set i (IntKind.i64.wrap (Z.getD i 0 + 1)) := rfl
   have hsz : szG T i (szS T i Z) = szL T g.nodes.length := hsz
   generalize szS T i Z = ZS at hS hsz
   have hB1 := hB.setZ (Z' := Z.set i (IntKind.i64.wrap (Z.getD i 0 + 1))) n75 n35 (Nat.le_refl _) (by rw [List.length_set]; exact hB.lz)
   have hY1 := hY.put (b := szb) (v := some (.cells (bD (Z.set i (IntKind.i64.wrap (Z.getD i 0 + 1)))) false 0)) (.inr rfl) (Nat.le_refl Y.nx)
   generalize (⟨Y.h.set szb (some (.cells (bD (Z.set i (IntKind.i64.wrap (Z.getD i 0 + 1)))) false 0)), Y.nx⟩ : St) = Y1 at *
   generalize Z.set i (IntKind.i64.wrap (Z.getD i 0 + 1)) = Z1 at *
   clear hz0 hltZ hB hY
   have sXY : Same X Y1 := hY1.same sXZ lx3 lx5 lx5
   have hltZ : i < Z1.length := by rw [hB1.lz]; exact hlt
   have ldz : ∀ j, j < g.nodes.length → fK (.ptr szb j) false 1 Y1.h = some (.int .i64 (Z1.getD j 0)) := fun j hj => cQ hB1.gz (by
    have hj' : j < Z1.length := by rw [hB1.lz]; exact hj
    unfold bD
    rw [List.getElem?_map, List.getElem?_eq_getElem hj', List.getD_eq_getElem?_getD, List.getElem?_eq_getElem hj']
    rfl)
   refine aE (bP (Q := fun o A' Y' => o = .normal ∧ A'.inr = false ∧ oI plb szb szb Z0 Y' ∧ gT Y' wb plb szb pv nv iv g R ZS ∧ aC 1 A'.F = .ptr S.nx 0 ∧ aC 4 A'.F = pv ∧ aC 7 A'.F = .ptr wb 0 ∧ aC 8 A'.F = .int .i64 (i : Int)) (aE (aR ?_)) ?_)
   ·simp only [↓aJ,aH,rE,↓reduceIte, rA, p8]
    by_cases hi0 : 0 < i
    ·refine bB (by simp only [↓aJ,aH,rE,↓reduceIte, rA, decide_eq_true (show (0 : Int) < (i : Int) by omega)]) ?_
     obtain ⟨q, hq, hqv⟩ := hpr i hi0 hlt
     have hltP : i < (T.map (·.1)).length := by rw [List.length_map]; omega
     have iap := (hpv.same sXY).iaddr hltP
     have lap := (hpv.same sXY).ld hltP
     rw [hqv] at lap
     have hiq := gN (b := szb) (N := g.nodes.length) (o := false) (show q < g.nodes.length by omega)
     have lq := ldz q (by omega)
     have li := ldz i hlt
     rw [if_pos hi0, hqv, Int.toNat_natCast] at hS
     subst hS
     refine qN (pre := aK4) (K := 19) (m := 524287) (n := 1) (x := .t 65) (v := .t 64) rfl rfl rfl rfl ?_
     unfold aK4
     simp only [↓aJ,aH,rE,↓reduceIte, rA, p4, p7, p8, aS, bF, aT, aB, aN, aA, gK hB1.w.1, aL, iap, lap, hiq, lq, hia, li]
     simp only [cV, aF]
     exact ⟨_, aAd (S := ⟨Y1.h, Y1.nx + 20⟩) hB1.gz (by rw [hB1.lz]; omega), hY1.put (.inr rfl) (Nat.le_add_right _ _), hB1.setZ n75 n35 (Nat.le_add_right _ _) (by rw [List.length_set]; exact hB1.lz), p1⟩
    ·refine aX (by simp only [↓aJ,aH,rE,↓reduceIte, rA, decide_eq_false (show ¬ (0 : Int) < (i : Int) by omega)]) (aO ?_)
     try simp only [↓aJ,aH,rE,↓reduceIte, rA]
     rw [if_neg hi0] at hS
     subst hS
     exact ⟨hY1, hB1, by simp only [↓aJ,aH,rE,↓reduceIte, rA, p1], by simp only [↓aJ,aH,rE,↓reduceIte, rA, p4], by simp only [↓aJ,aH,rE,↓reduceIte, rA, p7], by simp only [↓aJ,aH,rE,↓reduceIte, rA, p8]⟩
   clear p1 p4 p7 p8 ldz hltZ hY1 hB1 sXY
   rintro o ⟨F, inr⟩ Y2 ⟨rfl, q0, hY2, hB2, p1, p4, p7, p8⟩
   simp only at q0 p1 p4 p7 p8
   subst q0
   try simp only [↓aJ,aH,rE,↓reduceIte, rA]
   have sSY : Same S Y2 := hY2.same sZ l3 l5 l5
   have cY : Y2.h.get S.nx = some (.cells [.int .i64 g.players, nv, iv] false 0) := by rw [hY2.2 _ lgZ ng3 ng5 ng5]; exact cZ
   obtain ⟨x, hx⟩ : ∃ x, g.nodes[i]? = some x := ⟨_, List.getElem?_eq_getElem hlt⟩
   have hnx := vY hx
   obtain ⟨e, b, q, hian, hb, he, ⟨a, bb, cc, rfl, ha, _, _⟩, _, hlf⟩ := aQ.at hn (by decide) hx
   have hl3 := hlf 3 a rfl
   rw [← wH sSY hb] at hl3
   have hcx := hcr i hlt
   rw [hnx] at hcx
   have hpl : aCq g i (sL x.next 0 R) = kG g := by rw [← hnx]; exact hpl
   have hxl : x.next.length ≤ 100000 := by
    have hinc := hwf.inc i (by omega)
    rw [Nat.zero_add, hnx] at hinc
    have := aGW (lo := 0) hinc fun c hc => ⟨by have := (hcx c hc).1; omega, (hcx c hc).2⟩
    omega
   refine cI ?_
   simp only [↓aJ,aH,rE,↓reduceIte, rA, p1, p8, aB, aA, lI cY, aL, hian, hl3, ha.len, Int.ofNat_eq_natCast]
   refine bP (Q := fun o A' Y' => o = .normal ∧ aMu Z0 S.nx wb plb szb pv nv iv a g i x.next ZS 0 A' Y') ?_ ?_
   ·refine bE (cS (aMu Z0 S.nx wb plb szb pv nv iv a g i x.next ZS) ?_ x.next.length _ _ ⟨rfl, hY2, 0, R, hB2, by omega, hpl, by simp only [↓aJ,aH,rE,↓reduceIte, rA, p1], by simp only [↓aJ,aH,rE,↓reduceIte, rA, p4], by simp only [↓aJ,aH,rE,↓reduceIte, rA, p7], by simp only [↓aJ,aH,rE,↓reduceIte, rA, p8], by simp only [↓aJ,aH,rE,↓reduceIte, rA], by simp only [↓aJ,aH,rE,↓reduceIte, rA], by simp only [↓aJ,aH,rE,↓reduceIte, rA]⟩)
    clear p1 p4 p7 p8 hpl cY hian hb hl3 hlf hB2 hY2 sSY
    rintro k ⟨F, inr⟩ W ⟨q0, hW, j, R, hB, hjk, hpl, p1, p4, p7, p8, p71, p72, p73⟩
    simp only at q0 p1 p4 p7 p8 p71 p72 p73
    subst q0
    refine cI ?_
    simp only [↓aJ,aH,rE,↓reduceIte, rA, p72, p73]
    by_cases hj : j < x.next.length
    ·refine aE (bB (by simp only [↓aJ,aH,rE,↓reduceIte, rA, decide_eq_true (show (j : Int) < ((x.next.length : Nat) : Int) by omega)]) (aO ?_))
     try simp only [↓aJ,aH,rE,↓reduceIte, rA]
     have sSW : Same S W := hW.same sZ l3 l5 l5
     have haW := ha.same sSW
     have iaj := haW.iaddr hj
     have laj := haW.ld hj
     have hdr : x.next.drop j = x.next[j] :: x.next.drop (j + 1) := List.drop_eq_getElem_cons hj
     have hgd : x.next.getD j 0 = x.next[j] := by rw [List.getD_eq_getElem?_getD, List.getElem?_eq_getElem hj]; rfl
     rw [hgd] at laj
     rw [hdr] at hpl
     obtain ⟨c0, c1'⟩ := hcx _ (List.getElem_mem hj)
     generalize x.next[j] = c at *
     obtain ⟨m, rfl⟩ : ∃ m : Nat, c = (m : Int) := ⟨c.toNat, by omega⟩
     have hm : m < g.nodes.length := by omega
     have hiam := gN (b := plb) (o := false) hm
     have w1 : IntKind.i64.wrap ((j : Int) + 1) = ((j + 1 : Nat) : Int) := by rw [wrap_i64 (by omega) (by omega)]; omega
     refine aE (bE (aE (aR ?_)))
     simp only [↓aJ,aH,rE,↓reduceIte, rA, p71, p73, aL, iaj, laj]
     refine aR ?_
     simp only [↓aJ,aH,rE,↓reduceIte, rA, p7, aS, aT, aB, aA, fM hB.w.1, aL, hiam]
     refine fZ (fun call => by simp only [↓aJ,aH,rE,↓reduceIte, rA, dT, cV]; exact aAd (S := W) hB.gp (by rw [hB.lp]; exact hm)) ?_
     simp only [↓aJ,aH,rE,↓reduceIte, rA]
     refine aR ?_
     simp only [↓aJ,aH,rE,↓reduceIte, rA, p73, w1]
     simp only [sL, Int.toNat_natCast] at hpl
     exact ⟨k - 1, by omega, rfl, hW.put (.inl rfl) (Nat.le_refl _), j + 1, R.set m (j : Int), hB.setP n73 n35 (Nat.le_refl _) (by rw [List.length_set]; exact hB.lp), by omega, hpl, by simp only [↓aJ,aH,rE,↓reduceIte, rA, p1], by simp only [↓aJ,aH,rE,↓reduceIte, rA, p4], by simp only [↓aJ,aH,rE,↓reduceIte, rA, p7], by simp only [↓aJ,aH,rE,↓reduceIte, rA, p8], by simp only [↓aJ,aH,rE,↓reduceIte, rA, p71], by simp only [↓aJ,aH,rE,↓reduceIte, rA, p72], by simp only [↓aJ,aH,rE,↓reduceIte, rA]⟩
    ·refine aE (aX (by simp only [↓aJ,aH,rE,↓reduceIte, rA, decide_eq_false (show ¬ (j : Int) < ((x.next.length : Nat) : Int) by omega)]) (cL ?_))
     simp only [↓aJ,aH,rE,↓reduceIte, rA]
     have hk0 : k = 0 := by omega
     subst hk0
     exact ⟨rfl, hW, j, R, hB, hjk, hpl, by simp only [↓aJ,aH,rE,↓reduceIte, rA, p1], by simp only [↓aJ,aH,rE,↓reduceIte, rA, p4], by simp only [↓aJ,aH,rE,↓reduceIte, rA, p7], by simp only [↓aJ,aH,rE,↓reduceIte, rA, p8], by simp only [↓aJ,aH,rE,↓reduceIte, rA, p71], by simp only [↓aJ,aH,rE,↓reduceIte, rA, p72], by simp only [↓aJ,aH,rE,↓reduceIte, rA, p73]⟩
   clear p1 p4 p7 p8
   rintro o ⟨F, inr⟩ W ⟨rfl, q0, hW, j, R3, hB3, hjk, hpl3, p1, p4, p7, p8, p71, p72, p73⟩
   simp only at q0 p1 p4 p7 p8
   subst q0
   rw [List.drop_of_length_le (by omega)] at hpl3
   have w2 : IntKind.i64.wrap ((i : Int) - 1) = (i : Int) - 1 := wrap_i64 (by omega) (by omega)
   try simp only [↓aJ,aH,rE,↓reduceIte, rA]
   refine aR ?_
   simp only [↓aJ,aH,rE,↓reduceIte, rA, p8, w2]
   exact ⟨i, by omega, rfl, hW, R3, ZS, hB3, by omega, hpl3, hsz, by simp only [↓aJ,aH,rE,↓reduceIte, rA, p1], by simp only [↓aJ,aH,rE,↓reduceIte, rA, p4], by simp only [↓aJ,aH,rE,↓reduceIte, rA, p7], by simp only [↓aJ,aH,rE,↓reduceIte, rA]⟩
  ·refine aX (by simp only [↓aJ,aH,rE,↓reduceIte, rA, decide_eq_false (show ¬ (0 : Int) ≤ (k : Int) - 1 by omega)]) (cL ?_)
   simp only [↓aJ,aH,rE,↓reduceIte, rA]
   have hk0 : k = 0 := by omega
   subst hk0
   exact ⟨rfl, hY, R, Z, hB, hkN, hpl, hsz, by simp only [↓aJ,aH,rE,↓reduceIte, rA, p1], by simp only [↓aJ,aH,rE,↓reduceIte, rA, p4], by simp only [↓aJ,aH,rE,↓reduceIte, rA, p7], by simp only [↓aJ,aH,rE,↓reduceIte, rA, p8]⟩
 rintro o ⟨F, inr⟩ Y ⟨rfl, q0, hY, R, Z, hB, hkN, hpl, hsz, p1, p4, p7, p8⟩
 simp only at q0 p7
 subst q0
 have hpl : R = kG g := hpl
 subst hpl
 have hsz : Z = szL T g.nodes.length := hsz
 subst hsz
 try simp only [↓aJ,aH,rE,↓reduceIte, rA]
 refine cI ?_
 simp only [↓aJ,aH,rE,↓reduceIte, rA, p7]
 refine aY ?_
 simp only [↓aJ,aH,rE,↓reduceIte, rA]
 rw [h0]
 have sXY : Same X Y := hY.same sXZ lx3 lx5 lx5
 exact ⟨sX.trans sXY, _, rfl, fun _ => ⟨wb, plb, szb, pv, T, rfl, l7, hT, hTl, hpv.same sXY, hB⟩⟩
theorem yV {S : St} {nv iv : AV} {g : bG} (H : Has fns) (hn : aQ 6 cO S nv g.nodes) (hi : aQ 2 dB S iv g.infos) (hln : g.nodes.length ≤ 100000) :
  iQ fns (.fn 68 [] []) [.agg [.int .i64 g.players, nv, iv]] S fun r S' => Same S S' ∧ ∃ p, r = .tup [p, .int .i64 (dF g)] ∧ (dF g = 0 → aLJ S S' p nv iv g) := by
 refine aW (aBd H hn hi hln) fun r S' h => ?_
 obtain ⟨h1, p, h2, h3⟩ := h
 refine ⟨h1, p, h2, fun h0 => ?_⟩
 obtain ⟨wb, plb, szb, pv, T, a, b, c, d, e, f⟩ := h3 h0
 exact ⟨wb, plb, szb, pv, T, _, a, b, c, d, e, f⟩
end Go.Ev.Gl
namespace Go.Ev.Gl
variable {fns : T cA}
def aFI (m : List Int) : Prop := ∃ i k, k < i ∧ i < m.length ∧ m.getD i 0 = m.getD k 0
open Classical in
noncomputable def kT (n : Nat) (m : List Int) (ok : Prop) : Int := if m.length ≠ n then 10 else if ¬ aAN m n then 2 else if aFI m then 8 else if ok then 0 else 3
end Go.Ev.Gl
namespace Go.Ev.Gl
variable {fns : T cA}
def aMY (S1 : St) (mv : AV) (w e : Nat) (n : Nat) (m : List Int) (k : Nat) (A : bT) (X : St) : Prop := A.inr = false ∧ Same S1 X ∧ ∃ i, i + k = m.length ∧ (∀ j, j < i → 0 ≤ m.getD j 0 ∧ m.getD j 0 < n) ∧ aC 0 A.F = .ptr w 0 ∧ aC 1 A.F = mv ∧ aC 4 A.F = .ptr e 0 ∧ aC 6 A.F = .int .i64 (n : Int) ∧ aC 25 A.F = mv ∧ aC 26 A.F = .int .i64 ((m.length : Nat) : Int) ∧ aC 27 A.F = .int .i64 (i : Int)
def aM3 (X1 : St) (mv : AV) (w e sb n : Nat) (m : List Int) (k : Nat) (A : bT) (X : St) : Prop := A.inr = false ∧ dH sb X1 X ∧ sb < X.nx ∧ ∃ i cs, i + k = m.length ∧ X.h.get sb = some (.cells cs false 0) ∧ cs.length = n ∧ (∀ v, v < n → cs[v]? = some (.bool (decide (∃ j, j < i ∧ m.getD j 0 = (v : Int))))) ∧ (∀ j l, l < j → j < i → m.getD j 0 ≠ m.getD l 0) ∧ aC 0 A.F = .ptr w 0 ∧ aC 1 A.F = mv ∧ aC 4 A.F = .ptr e 0 ∧ aC 9 A.F = .sl sb 0 n n false ∧ aC 42 A.F = mv ∧ aC 43 A.F = .int .i64 ((m.length : Nat) : Int) ∧ aC 44 A.F = .int .i64 (i : Int)
set_option maxHeartbeats 4000000 in
theorem qZ {S : St} {wb : Nat} {nv iv pv plv szv mv : AV} {g : bG} {m : List Int} {ok : Prop} {P : St → St → AV → AV → Prop} (H : Has fns) (hP : ∀ {S0 S1 S2 : St} {x y : AV}, P S0 S1 x y → S1.nx ≤ S2.nx → (∀ c, S0.nx ≤ c → c < S1.nx → S2.h.get c = S1.h.get c) → P S0 S2 x y) (hW : qF S wb g.players nv iv pv plv szv) (hn : aQ 6 cO S nv g.nodes) (hm : bS .i64 S mv m) (hln : g.nodes.length ≤ 100000)
  (himg : m.length = g.nodes.length → aAN m g.nodes.length → ¬ aFI m → ∀ S', Same S S' → iQ fns (.fn 116 [] []) [.ptr wb 0, mv] S' fun r S'' => Same S' S'' ∧ ∃ x y t, r = .tup [.agg [x, y], .bool t] ∧ (t = true ↔ ok) ∧ (t = true → P S' S'' x y)) :
  iQ fns (.fn 69 [] []) [.ptr wb 0, mv] S fun r S' => Same S S' ∧ ∃ x y, r = .tup [.agg [x, y], .int .i64 (kT g.nodes.length m ok)] ∧ (kT g.nodes.length m ok = 0 → ∃ S0, S.nx ≤ S0.nx ∧ P S0 S' x y) ∧ (kT g.nodes.length m ok ≠ 0 → x = .nilsl ∧ y = .nilsl) := by
 have hb0 : ∀ (F : Fr) (h : Ev.T AB), gP (.build [.nilsl, .nilsl] []) F h = some (.agg [.nilsl, .nilsl]) := fun _ _ => rfl
 refine cW H.f69 (by simp) ?_
 simp only [↓aJ,aH,rE,↓reduceIte, rA]
 refine cI ?_
 refine dD ?_
 intro S1 s1 n1 c1
 simp only [↓aJ,aH,rE,↓reduceIte, rA]
 have lw := hW.2
 have hW1 := hW.same s1
 have le : S.nx < S1.nx := by omega
 refine cI ?_
 simp only [↓aJ,aH,rE,↓reduceIte, rA, aS, aT, aB, aA, eQ hW1.1, hn.len]
 refine kK ?_
 simp only [↓aJ,aH,rE,↓reduceIte, rA, hm.len, Int.ofNat_eq_natCast]
 by_cases hlen : m.length = g.nodes.length
 rotate_left
 ·have hE : kT g.nodes.length m ok = 10 := by unfold kT; rw [if_pos hlen]
  rw [hE]
  refine bB (by simp only [↓aJ,aH,rE,↓reduceIte, rA, decide_eq_true (show ((m.length : Nat) : Int) ≠ ((g.nodes.length : Nat) : Int) by omega)]) ?_
  refine cI ?_
  simp only [↓aJ,aH,rE,↓reduceIte, rA, hb0]
  refine eH (b := S.nx) (by simp only [↓aJ,aH,rE,↓reduceIte, rA]) (by simp only [↓aJ,aH,rE,↓reduceIte, rA]; exact bK _) c1 rfl rfl ?_
  intro S2 s2 n2 c2
  simp only [↓aJ,aH,rE,↓reduceIte, rA]
  have ld2 := qJ (n := 2) c2 rfl
  refine aY ?_
  simp only [↓aJ,aH,rE,↓reduceIte, rA, eZ, ld2]
  exact ⟨s2.same s1 (Nat.le_refl _), _, _, rfl, fun h => absurd h (by decide), fun _ => ⟨rfl, rfl⟩⟩
 refine aX (by simp only [↓aJ,aH,rE,↓reduceIte, rA, decide_eq_false (show ¬ ((m.length : Nat) : Int) ≠ ((g.nodes.length : Nat) : Int) by omega)]) (aO ?_)
 try simp only [↓aJ,aH,rE,↓reduceIte, rA]
 refine aE (bP (Q := fun o A' X => (o = .normal ∧ aMY S1 mv wb S.nx g.nodes.length m 0 A' X) ∨ (o = .ret ∧ dH S.nx S1 X ∧ X.h.get S.nx = some (.cells [.nilsl, .nilsl] false 0) ∧ ¬ aAN m g.nodes.length ∧ aC 4 A'.F = .ptr S.nx 0 ∧ aC 5 A'.F = .int .i64 2)) (aE (aR ?_)) ?_)
 ·simp only [↓aJ,aH,rE,↓reduceIte, rA, hm.len, Int.ofNat_eq_natCast]
  refine bE (cS (aMY S1 mv wb S.nx g.nodes.length m) ?_ m.length _ _ ⟨rfl, Same.refl _, 0, by omega, fun j hj => by omega, by simp only [↓aJ,aH,rE,↓reduceIte, rA], by simp only [↓aJ,aH,rE,↓reduceIte, rA], by simp only [↓aJ,aH,rE,↓reduceIte, rA], by simp only [↓aJ,aH,rE,↓reduceIte, rA], by simp only [↓aJ,aH,rE,↓reduceIte, rA], by simp only [↓aJ,aH,rE,↓reduceIte, rA], by simp only [↓aJ,aH,rE,↓reduceIte, rA]⟩)
  rintro k ⟨F, inr⟩ X ⟨q0, hX, i, hik, hr, p0, p1, p4, p6, p25, p26, p27⟩
  simp only at q0 p0 p1 p4 p6 p25 p26 p27
  subst q0
  refine cI ?_
  simp only [↓aJ,aH,rE,↓reduceIte, rA, p26, p27]
  by_cases hlt : i < m.length
  ·refine aE (bB (by simp only [↓aJ,aH,rE,↓reduceIte, rA, decide_eq_true (show (i : Int) < ((m.length : Nat) : Int) by omega)]) (aO ?_))
   try simp only [↓aJ,aH,rE,↓reduceIte, rA]
   have hmX := hm.same (s1.trans hX)
   have ia := hmX.iaddr hlt
   have la := hmX.ld hlt
   have hmem : m.getD i 0 ∈ m := by rw [List.getD_eq_getElem?_getD, List.getElem?_eq_getElem hlt]; exact List.getElem_mem _
   have cX : X.h.get S.nx = some (.cells [.nilsl, .nilsl] false 0) := by rw [hX.2 _ le]; exact c1
   have w1 : IntKind.i64.wrap ((i : Int) + 1) = ((i + 1 : Nat) : Int) := by rw [wrap_i64 (by omega) (by omega)]; omega
   refine aE (bE (aE (aR ?_)))
   simp only [↓aJ,aH,rE,↓reduceIte, rA, p25, p27, aL, ia, la]
   refine aE (bP (Q := fun o A' Y => o = .normal ∧ A'.inr = false ∧ Y = X ∧ aC 0 A'.F = .ptr wb 0 ∧ aC 1 A'.F = mv ∧ aC 4 A'.F = .ptr S.nx 0 ∧ aC 6 A'.F = .int .i64 ((g.nodes.length : Nat) : Int) ∧ aC 25 A'.F = mv ∧ aC 26 A'.F = .int .i64 ((m.length : Nat) : Int) ∧ aC 27 A'.F = .int .i64 (i : Int) ∧ aC 37 A'.F = .bool (decide (m.getD i 0 < 0 ∨ ((g.nodes.length : Nat) : Int) ≤ m.getD i 0))) (aR ?_) ?_)
   ·by_cases h1 : m.getD i 0 < 0
    ·rw [decide_eq_true (show m.getD i 0 < 0 ∨ ((g.nodes.length : Nat) : Int) ≤ m.getD i 0 from .inl h1)]
     simp only [↓aJ,aH,rE,↓reduceIte, rA, p0, p1, p4, p6, p25, p26, p27, decide_eq_true h1]
    ·by_cases h2 : ((g.nodes.length : Nat) : Int) ≤ m.getD i 0
     ·rw [decide_eq_true (show m.getD i 0 < 0 ∨ ((g.nodes.length : Nat) : Int) ≤ m.getD i 0 from .inr h2)]
      simp only [↓aJ,aH,rE,↓reduceIte, rA, p0, p1, p4, p6, p25, p26, p27, decide_eq_false h1, decide_eq_true h2]
     ·rw [decide_eq_false (show ¬ (m.getD i 0 < 0 ∨ ((g.nodes.length : Nat) : Int) ≤ m.getD i 0) by omega)]
      simp only [↓aJ,aH,rE,↓reduceIte, rA, p0, p1, p4, p6, p25, p26, p27, decide_eq_false h1, decide_eq_false h2]
   clear p0 p1 p4 p6 p25 p26 p27
   rintro o ⟨F, inr⟩ Y ⟨rfl, q0, hYX, p0, p1, p4, p6, p25, p26, p27, pb⟩
   simp only at q0 p0 p1 p4 p6 p25 p26 p27 pb
   subst q0
   rw [hYX]
   try simp only [↓aJ,aH,rE,↓reduceIte, rA]
   by_cases hbad : m.getD i 0 < 0 ∨ ((g.nodes.length : Nat) : Int) ≤ m.getD i 0
   ·refine bB (by simp only [↓aJ,aH,rE,↓reduceIte, rA, pb, decide_eq_true hbad]) ?_
    refine cI ?_
    simp only [↓aJ,aH,rE,↓reduceIte, rA, hb0]
    refine eH (b := S.nx) (by simp only [↓aJ,aH,rE,↓reduceIte, rA, p4]) (by simp only [↓aJ,aH,rE,↓reduceIte, rA]; exact bK _) cX rfl rfl ?_
    intro X2 x2 m2 d2
    simp only [↓aJ,aH,rE,↓reduceIte, rA]
    refine aY ?_
    simp only [↓aJ,aH,rE,↓reduceIte, rA, p4]
    exact .inr ⟨⟨Nat.le_trans hX.1 x2.1, fun c hc hne => by rw [x2.2 _ (Nat.lt_of_lt_of_le hc hX.1) hne, hX.2 _ hc]⟩, d2, fun h => by have := h _ hmem; omega⟩
   ·refine aX (by simp only [↓aJ,aH,rE,↓reduceIte, rA, pb, decide_eq_false hbad]) (aO ?_)
    try simp only [↓aJ,aH,rE,↓reduceIte, rA]
    refine aR ?_
    simp only [↓aJ,aH,rE,↓reduceIte, rA, p27, w1]
    refine ⟨k - 1, by omega, rfl, hX, i + 1, by omega, fun j hj => ?_, by simp only [↓aJ,aH,rE,↓reduceIte, rA, p0], by simp only [↓aJ,aH,rE,↓reduceIte, rA, p1], by simp only [↓aJ,aH,rE,↓reduceIte, rA, p4], by simp only [↓aJ,aH,rE,↓reduceIte, rA, p6], by simp only [↓aJ,aH,rE,↓reduceIte, rA, p25], by simp only [↓aJ,aH,rE,↓reduceIte, rA, p26], by simp only [↓aJ,aH,rE,↓reduceIte, rA]⟩
    by_cases hji : j = i
    ·rw [hji]; omega
    ·exact hr j (by omega)
  ·refine aE (aX (by simp only [↓aJ,aH,rE,↓reduceIte, rA, decide_eq_false (show ¬ (i : Int) < ((m.length : Nat) : Int) by omega)]) (cL ?_))
   simp only [↓aJ,aH,rE,↓reduceIte, rA]
   have hk0 : k = 0 := by omega
   subst hk0
   exact .inl ⟨rfl, hX, i, hik, hr, by simp only [↓aJ,aH,rE,↓reduceIte, rA, p0], by simp only [↓aJ,aH,rE,↓reduceIte, rA, p1], by simp only [↓aJ,aH,rE,↓reduceIte, rA, p4], by simp only [↓aJ,aH,rE,↓reduceIte, rA, p6], by simp only [↓aJ,aH,rE,↓reduceIte, rA, p25], by simp only [↓aJ,aH,rE,↓reduceIte, rA, p26], by simp only [↓aJ,aH,rE,↓reduceIte, rA, p27]⟩
 rintro o ⟨F, inr⟩ X (⟨rfl, q0, hX, i, hik, hr, p0, p1, p4, p6, p25, p26, p27⟩ | ⟨rfl, hX, cX, hno, p4, p5⟩)
 rotate_left
 ·have hE : kT g.nodes.length m ok = 2 := by unfold kT; rw [if_neg (fun h => h hlen), if_pos hno]
  rw [hE]
  simp only at p4 p5
  have ld2 := qJ (n := 2) cX rfl
  simp only [↓aJ,aH,rE,↓reduceIte, rA, eZ, p4, p5, ld2]
  exact ⟨⟨Nat.le_trans s1.1 hX.1, fun c hc => by rw [hX.2 _ (Nat.lt_of_lt_of_le hc s1.1) (by omega), s1.2 _ hc]⟩, _, _, rfl, fun h => absurd h (by decide), fun _ => ⟨rfl, rfl⟩⟩
 simp only at q0 p0 p1 p4 p6
 subst q0
 have hin : aAN m g.nodes.length := fun x hx => by
  obtain ⟨j, hj, rfl⟩ := List.mem_iff_getElem.1 hx
  have := hr j (by omega)
  rw [List.getD_eq_getElem?_getD, List.getElem?_eq_getElem hj] at this
  exact this
 clear p25 p26 p27 hik hr i
 have sX := s1.trans hX
 have leX : S.nx < X.nx := Nat.lt_of_lt_of_le le hX.1
 have cX : X.h.get S.nx = some (.cells [.nilsl, .nilsl] false 0) := by rw [hX.2 _ le]; exact c1
 try simp only [↓aJ,aH,rE,↓reduceIte, rA]
 refine cI ?_
 simp only [↓aJ,aH,rE,↓reduceIte, rA, p6]
 refine kH (tA (n := g.nodes.length) (by simp only [↓aJ,aH,rE,↓reduceIte, rA, aL]) (by simp only [↓aJ,aH,rE,↓reduceIte, rA, aL]) (by unfold room; omega) (by unfold room; omega)) ?_
 intro X1 x1 m1 d1
 rw [repeatL_one] at d1
 simp only [↓aJ,aH,rE,↓reduceIte, rA]
 have sX1 := sX.trans x1
 refine aE (bP (Q := fun o A' Y => (o = .normal ∧ aM3 X1 mv wb S.nx X.nx g.nodes.length m 0 A' Y) ∨ (o = .ret ∧ Same S Y ∧ Y.h.get S.nx = some (.cells [.nilsl, .nilsl] false 0) ∧ aFI m ∧ aC 4 A'.F = .ptr S.nx 0 ∧ aC 5 A'.F = .int .i64 8)) (aE (aR ?_)) ?_)
 ·simp only [↓aJ,aH,rE,↓reduceIte, rA, p1, hm.len, Int.ofNat_eq_natCast]
  refine bE (cS (aM3 X1 mv wb S.nx X.nx g.nodes.length m) ?_ m.length _ _ ⟨rfl, dH.refl _ _, by omega, 0, _, by omega, d1, List.length_replicate .., fun v hv => ?_, fun j l _ hj => by omega, by simp only [↓aJ,aH,rE,↓reduceIte, rA, p0], by simp only [↓aJ,aH,rE,↓reduceIte, rA, p1], by simp only [↓aJ,aH,rE,↓reduceIte, rA, p4], by simp only [↓aJ,aH,rE,↓reduceIte, rA], by simp only [↓aJ,aH,rE,↓reduceIte, rA], by simp only [↓aJ,aH,rE,↓reduceIte, rA], by simp only [↓aJ,aH,rE,↓reduceIte, rA]⟩)
  rotate_left
  ·rw [List.getElem?_replicate, if_pos hv, decide_eq_false (fun ⟨j, hj, _⟩ => by omega)]
  clear p0 p1 p4 p6
  rintro k ⟨F, inr⟩ Y ⟨q0, hY, hsb, i, cs, hik, hg, hcs, hse, hnd, p0, p1, p4, p9, p42, p43, p44⟩
  simp only at q0 p0 p1 p4 p9 p42 p43 p44
  subst q0
  refine cI ?_
  simp only [↓aJ,aH,rE,↓reduceIte, rA, p43, p44]
  by_cases hlt : i < m.length
  ·refine aE (bB (by simp only [↓aJ,aH,rE,↓reduceIte, rA, decide_eq_true (show (i : Int) < ((m.length : Nat) : Int) by omega)]) (aO ?_))
   try simp only [↓aJ,aH,rE,↓reduceIte, rA]
   have lX1 : X.nx < X1.nx := by omega
   have sY : Same S Y := ⟨Nat.le_trans sX1.1 hY.1, fun c hc => by rw [hY.2 _ (Nat.lt_of_lt_of_le hc sX1.1) (by omega)]; exact sX1.2 _ hc⟩
   have cY : Y.h.get S.nx = some (.cells [.nilsl, .nilsl] false 0) := by rw [hY.2 _ (by omega) (by omega), x1.2 _ leX]; exact cX
   have hmY := hm.same sY
   have ia := hmY.iaddr hlt
   have la := hmY.ld hlt
   have hmem : m.getD i 0 ∈ m := by rw [List.getD_eq_getElem?_getD, List.getElem?_eq_getElem hlt]; exact List.getElem_mem _
   have w1 : IntKind.i64.wrap ((i : Int) + 1) = ((i + 1 : Nat) : Int) := by rw [wrap_i64 (by omega) (by omega)]; omega
   obtain ⟨v0, v1⟩ := hin _ hmem
   generalize hvv : m.getD i 0 = v at *
   obtain ⟨u, rfl⟩ : ∃ u : Nat, v = (u : Int) := ⟨v.toNat, by omega⟩
   have hu : u < g.nodes.length := by omega
   have hia := gN (b := X.nx) (o := false) hu
   have hlu := cQ hg (hse u hu)
   refine aE (bE (aE (aR ?_)))
   simp only [↓aJ,aH,rE,↓reduceIte, rA, p42, p44, aL, ia, la]
   refine kK ?_
   simp only [↓aJ,aH,rE,↓reduceIte, rA, p9, aL, hia, hlu]
   by_cases hd : ∃ j, j < i ∧ m.getD j 0 = (u : Int)
   ·refine bB (by simp only [↓aJ,aH,rE,↓reduceIte, rA, decide_eq_true hd]) ?_
    refine cI ?_
    simp only [↓aJ,aH,rE,↓reduceIte, rA, hb0]
    refine eH (b := S.nx) (by simp only [↓aJ,aH,rE,↓reduceIte, rA, p4]) (by simp only [↓aJ,aH,rE,↓reduceIte, rA]; exact bK _) cY rfl rfl ?_
    intro X2 x2 m2 d2
    simp only [↓aJ,aH,rE,↓reduceIte, rA]
    refine aY ?_
    simp only [↓aJ,aH,rE,↓reduceIte, rA, p4]
    obtain ⟨j, hj, hjv⟩ := hd
    exact .inr ⟨⟨Nat.le_trans sY.1 x2.1, fun c hc => by rw [x2.2 _ (Nat.lt_of_lt_of_le hc sY.1) (by omega), sY.2 _ hc]⟩, d2, i, j, hj, hlt, by rw [hvv, hjv]⟩
   ·refine aX (by simp only [↓aJ,aH,rE,↓reduceIte, rA, decide_eq_false hd]) (aO ?_)
    try simp only [↓aJ,aH,rE,↓reduceIte, rA]
    refine aR ?_
    simp only [↓aJ,aH,rE,↓reduceIte, rA, p9, aL, hia]
    refine fZ (fun call => by simp only [↓aJ,aH,rE,↓reduceIte, rA, dT]; exact stc (S := Y) (w := .bool true) hg (by rw [hcs]; exact hu)) ?_
    simp only [↓aJ,aH,rE,↓reduceIte, rA]
    refine aR ?_
    simp only [↓aJ,aH,rE,↓reduceIte, rA, p44, w1]
    refine ⟨k - 1, by omega, rfl, hY.put _, hsb, i + 1, cs.set u (.bool true), by omega, by simp only; rw [T.get_set, if_pos rfl], by rw [List.length_set]; exact hcs, fun v hv => ?_, fun j l hl hj => ?_, by simp only [↓aJ,aH,rE,↓reduceIte, rA, p0], by simp only [↓aJ,aH,rE,↓reduceIte, rA, p1], by simp only [↓aJ,aH,rE,↓reduceIte, rA, p4], by simp only [↓aJ,aH,rE,↓reduceIte, rA, p9], by simp only [↓aJ,aH,rE,↓reduceIte, rA, p42], by simp only [↓aJ,aH,rE,↓reduceIte, rA, p43], by simp only [↓aJ,aH,rE,↓reduceIte, rA]⟩
    ·rw [List.getElem?_set]
     split
     ·rename_i e
      rw [if_pos (by rw [hcs]; exact hu), decide_eq_true (show ∃ j, j < i + 1 ∧ m.getD j 0 = (v : Int) from ⟨i, by omega, by rw [hvv, e]⟩)]
     ·rename_i e
      rw [hse v hv]
      congr 2
      rw [Bool.eq_iff_iff, decide_eq_true_iff, decide_eq_true_iff]
      constructor
      ·rintro ⟨j, h1, h2⟩; exact ⟨j, by omega, h2⟩
      ·rintro ⟨j, h1, h2⟩
       refine ⟨j, ?_, h2⟩
       by_cases hji : j = i
       ·rw [hji, hvv] at h2; omega
       ·omega
    ·by_cases hji : j = i
     ·rw [hji, hvv]; exact fun h => hd ⟨l, by omega, h.symm⟩
     ·exact hnd j l hl (by omega)
  ·refine aE (aX (by simp only [↓aJ,aH,rE,↓reduceIte, rA, decide_eq_false (show ¬ (i : Int) < ((m.length : Nat) : Int) by omega)]) (cL ?_))
   simp only [↓aJ,aH,rE,↓reduceIte, rA]
   have hk0 : k = 0 := by omega
   subst hk0
   exact .inl ⟨rfl, hY, hsb, i, cs, hik, hg, hcs, hse, hnd, by simp only [↓aJ,aH,rE,↓reduceIte, rA, p0], by simp only [↓aJ,aH,rE,↓reduceIte, rA, p1], by simp only [↓aJ,aH,rE,↓reduceIte, rA, p4], by simp only [↓aJ,aH,rE,↓reduceIte, rA, p9], by simp only [↓aJ,aH,rE,↓reduceIte, rA, p42], by simp only [↓aJ,aH,rE,↓reduceIte, rA, p43], by simp only [↓aJ,aH,rE,↓reduceIte, rA, p44]⟩
 clear p0 p1 p4 p6
 rintro o ⟨F, inr⟩ Y (⟨rfl, q0, hY, hsb, i, cs, hik, hg, hcs, hse, hnd, p0, p1, p4, p9, p42, p43, p44⟩ | ⟨rfl, sY, cY, hdup, p4, p5⟩)
 rotate_left
 ·have hE : kT g.nodes.length m ok = 8 := by unfold kT; rw [if_neg (fun h => h hlen), if_neg (fun h => h hin), if_pos hdup]
  rw [hE]
  simp only at p4 p5
  have ld2 := qJ (n := 2) cY rfl
  simp only [↓aJ,aH,rE,↓reduceIte, rA, eZ, p4, p5, ld2]
  exact ⟨sY, _, _, rfl, fun h => absurd h (by decide), fun _ => ⟨rfl, rfl⟩⟩
 simp only at q0 p0 p1 p4
 subst q0
 have hnd' : ¬ aFI m := fun ⟨i', k', h1, h2, h3⟩ => hnd i' k' h1 (by omega) h3
 have lX1 : X.nx < X1.nx := by omega
 have sY : Same S Y := ⟨Nat.le_trans sX1.1 hY.1, fun c hc => by rw [hY.2 _ (Nat.lt_of_lt_of_le hc sX1.1) (by omega)]; exact sX1.2 _ hc⟩
 have cY : Y.h.get S.nx = some (.cells [.nilsl, .nilsl] false 0) := by rw [hY.2 _ (by omega) (by omega), x1.2 _ leX]; exact cX
 have leY : S.nx < Y.nx := by have := hY.1; omega
 have hE0 : ok → kT g.nodes.length m ok = 0 := fun hk => by unfold kT; rw [if_neg (fun h => h hlen), if_neg (fun h => h hin), if_neg hnd', if_pos hk]
 have hE3 : ¬ ok → kT g.nodes.length m ok = 3 := fun hk => by unfold kT; rw [if_neg (fun h => h hlen), if_neg (fun h => h hin), if_neg hnd', if_neg hk]
 try simp only [↓aJ,aH,rE,↓reduceIte, rA]
 refine kK ?_
 simp only [↓aJ,aH,rE,↓reduceIte, rA, p0, p1]
 refine bL ?_
 simp only [↓aJ,aH,rE,↓reduceIte, rA]
 refine aW (himg hlen hin hnd' Y sY) ?_
 rintro _ Z ⟨hZ, x, y, t, rfl, ht, htP⟩
 simp only [↓aJ,aH,rE,↓reduceIte, rA, ex0, ex1]
 refine dD ?_
 intro Z1 z1 k1 e1
 refine eH (b := Z.nx) (by simp only [↓aJ,aH,rE,↓reduceIte, rA]) (by simp only [↓aJ,aH,rE,↓reduceIte, rA]; exact bK _) e1 rfl rfl ?_
 intro Z2 z2 k2 e2
 simp only [↓aJ,aH,rE,↓reduceIte, rA]
 have sZ2 : Same Z Z2 := z2.same z1 (Nat.le_refl _)
 have sSZ2 := (sY.trans hZ).trans sZ2
 have cZ2 : Z2.h.get S.nx = some (.cells [.nilsl, .nilsl] false 0) := by rw [(hZ.trans sZ2).2 _ leY]; exact cY
 have lZ2 : S.nx < Z2.nx := Nat.lt_of_lt_of_le leY (hZ.trans sZ2).1
 have ldim := qJ (n := 2) e2 rfl
 refine cI ?_
 simp only [↓aJ,aH,rE,↓reduceIte, rA]
 cases t with
 | true =>
  rw [hE0 (ht.1 rfl)]
  refine bB (by simp only [↓aJ,aH,rE,↓reduceIte, rA]) ?_
  refine cI ?_
  simp only [↓aJ,aH,rE,↓reduceIte, rA, ldim]
  refine eH (b := S.nx) (by simp only [↓aJ,aH,rE,↓reduceIte, rA, p4]) (by simp only [↓aJ,aH,rE,↓reduceIte, rA]; exact bK _) cZ2 rfl rfl ?_
  intro Z3 z3 k3 e3
  simp only [↓aJ,aH,rE,↓reduceIte, rA]
  have ld3 := qJ (n := 2) e3 rfl
  refine aY ?_
  simp only [↓aJ,aH,rE,↓reduceIte, rA, eZ, p4, ld3]
  refine ⟨⟨Nat.le_trans sSZ2.1 z3.1, fun c hc => by rw [z3.2 _ (Nat.lt_of_lt_of_le hc sSZ2.1) (by omega), sSZ2.2 _ hc]⟩, x, y, rfl, ⟨Y, sY.1, hP (htP rfl) (Nat.le_trans sZ2.1 z3.1) fun c h1 h2 => ?_⟩, fun h => absurd rfl h⟩
  rw [z3.2 _ (Nat.lt_of_lt_of_le h2 sZ2.1) (by omega), sZ2.2 _ h2]
 | false =>
  rw [hE3 (fun h => by have := ht.2 h; cases this)]
  refine aX (by simp only [↓aJ,aH,rE,↓reduceIte, rA]) (aO ?_)
  try simp only [↓aJ,aH,rE,↓reduceIte, rA]
  refine cI ?_
  simp only [↓aJ,aH,rE,↓reduceIte, rA, hb0]
  refine eH (b := S.nx) (by simp only [↓aJ,aH,rE,↓reduceIte, rA, p4]) (by simp only [↓aJ,aH,rE,↓reduceIte, rA]; exact bK _) cZ2 rfl rfl ?_
  intro Z3 z3 k3 e3
  simp only [↓aJ,aH,rE,↓reduceIte, rA]
  have ld3 := qJ (n := 2) e3 rfl
  refine aY ?_
  simp only [↓aJ,aH,rE,↓reduceIte, rA, eZ, p4, ld3]
  exact ⟨⟨Nat.le_trans sSZ2.1 z3.1, fun c hc => by rw [z3.2 _ (Nat.lt_of_lt_of_le hc sSZ2.1) (by omega), sSZ2.2 _ hc]⟩, _, _, rfl, fun h => absurd h (by decide), fun _ => ⟨rfl, rfl⟩⟩
end Go.Ev.Gl
namespace Go.Ev.Gl
variable {fns : T cA}
theorem aB0 : ∀ (l : List Int) (s : Nat) (r : List Int), (sL l s r).length = r.length
 | [], _, _ => rfl
 | c :: l, s, r => by simp only [sL]; rw [aB0 l, List.length_set]
theorem yJ {v : Nat} : ∀ (l : List Int) (s : Nat) (r : List Int), (∀ c ∈ l, c.toNat ≠ v) → (sL l s r).getD v 0 = r.getD v 0
 | [], _, _, _ => rfl
 | c :: l, s, r, h => by
  simp only [sL]
  rw [yJ l _ _ fun c' hc' => h c' (List.mem_cons_of_mem _ hc')]
  have hne := h c (List.mem_cons_self ..)
  rw [List.getD_eq_getElem?_getD, List.getElem?_set, if_neg hne, List.getD_eq_getElem?_getD]
theorem aGO {k : Nat} {c : Int} : ∀ (l : List Int) (s : Nat) (r : List Int), l.Pairwise (· < ·) → (∀ c ∈ l, 0 ≤ c) → l[k]? = some c → c.toNat < r.length → (sL l s r).getD c.toNat 0 = ((s + k : Nat) : Int)
 | [], _, _, _, _, h, _ => by simp at h
 | x :: l, s, r, hi, h0, hk, hr => by
  obtain ⟨h1, h2⟩ := List.pairwise_cons.1 hi
  simp only [sL]
  cases k with
  | zero =>
   rw [List.getElem?_cons_zero] at hk
   cases hk
   rw [yJ l _ _ fun c' hc' => by
    have := h1 c' hc'
    have := h0 c (List.mem_cons_self ..)
    omega, iD hr, if_pos rfl, Nat.add_zero]
  | succ k =>
   rw [List.getElem?_cons_succ] at hk
   rw [aGO l (s + 1) _ h2 (fun c' hc' => h0 c' (List.mem_cons_of_mem _ hc')) hk (by rw [List.length_set]; exact hr)]
   congr 1
   omega
theorem aEJ {g : bG} {v : Nat} : ∀ (i : Nat) (r : List Int), (∀ j, j < i → ∀ c ∈ dP g j, c.toNat ≠ v) → (aCq g i r).getD v 0 = r.getD v 0
 | 0, _, _ => rfl
 | i + 1, r, h => by
  simp only [aCq]
  rw [aEJ i _ fun j hj => h j (by omega), yJ _ _ _ (h i (by omega))]
theorem aFp {g : bG} {i : Nat} : ∀ (n : Nat) (r : List Int), i ≤ n → ∃ r1, r1.length = r.length ∧ aCq g n r = aCq g i r1
 | 0, r, h => ⟨r, rfl, by rw [show i = 0 by omega]⟩
 | n + 1, r, h => by
  by_cases e : i = n + 1
  ·exact ⟨r, rfl, by rw [e]⟩
  ·obtain ⟨r1, h1, h2⟩ := aFp (i := i) n (sL (dP g n) 0 r) (by omega)
   exact ⟨r1, by rw [h1, aB0], by simp only [aCq]; exact h2⟩
theorem aFZ {g : bG} {T : List cK} (hw : WF (dP g) 0 (-1) T) (hT : T.length = g.nodes.length) {i k : Nat} {c : Int} (hi : i < g.nodes.length) (hk : (dP g i)[k]? = some c) : (kG g).getD c.toNat 0 = (k : Int) := by
 have cf : ∀ j, j < g.nodes.length → ∀ c ∈ dP g j, (j : Int) < c ∧ c < ((g.nodes.length : Nat) : Int) ∧ jD T c.toNat = some (j : Int) := fun j hj c hc => by
  obtain ⟨a, b, e⟩ := hw.cf j (by omega) c (by rw [Nat.zero_add]; exact hc)
  rw [Nat.zero_add] at a b e
  exact ⟨a, by omega, e⟩
 have hc := List.mem_of_getElem? hk
 obtain ⟨c1, c2, c3⟩ := cf i hi c hc
 unfold kG
 obtain ⟨r1, h1, h2⟩ := aFp (g := g) (i := i + 1) g.nodes.length (List.replicate g.nodes.length 0) (by omega)
 rw [List.length_replicate] at h1
 rw [h2]
 simp only [aCq]
 rw [aEJ i _ fun j hj c' hc' e => ?_, aGO _ _ _ ?_ (fun c' hc' => by have := (cf i hi c' hc').1; omega) hk (by rw [h1]; omega), Nat.zero_add]
 ·have := hw.inc i (by omega)
  rw [Nat.zero_add] at this
  exact this
 ·have h3 := (cf j (by omega) c' hc').2.2
  rw [e, c3] at h3
  have := Option.some.inj h3
  omega
end Go.Ev.Gl
