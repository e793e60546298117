import Derived.Test.YtoojnpjgnnpllaaGl14
open Nat renaming reduceEqDiff → rE, reduceAdd → rA
set_option maxHeartbeats 4000000
set_option linter.unusedSimpArgs false
set_option linter.unusedVariables false
namespace Go.Ev.Gl
variable {fns : T cA}
theorem xL {cs e : List AV} {p t : Nat} (hp : p + e.length ≤ cs.length) : (cs.take p ++ e ++ cs.drop (p + e.length))[t]? = if t < p then cs[t]? else if t < p + e.length then e[t - p]? else cs[t]? := by
 have hl : (cs.take p).length = p := by rw [List.length_take]; omega
 rw [List.append_assoc]
 by_cases h1 : t < p
 ·rw [if_pos h1, List.getElem?_append_left (by omega), List.getElem?_take_of_lt h1]
 ·rw [if_neg h1, List.getElem?_append_right (by omega), hl]
  by_cases h2 : t < p + e.length
  ·rw [if_pos h2, List.getElem?_append_left (by omega)]
  ·rw [if_neg h2, List.getElem?_append_right (by omega), List.getElem?_drop]
   congr 1
   omega
theorem aCT {S : St} {b p sz : Nat} {cs e : List AV} {o : Bool} (h : S.h.get b = some (.cells cs o sz)) (hp : p + e.length ≤ cs.length) : oZ S b p e = some ⟨S.h.set b (some (.cells (cs.take p ++ e ++ cs.drop (p + e.length)) o sz)), S.nx⟩ := by
 simp only [oZ, h, aF, yY, put_eq, if_pos hp]
theorem aMd {S : St} {b p sz n : Nat} {cs e : List AV} {o : Bool} (h : S.h.get b = some (.cells cs o sz)) (hp : p + e.length ≤ cs.length) (hn : e.length = n) : oH (.ptr b p) n e S = some (.undef, ⟨S.h.set b (some (.cells (cs.take p ++ e ++ cs.drop (p + e.length)) o sz)), S.nx⟩) := by
 simp only [oH, dR, hn, aCT h hp]
 rw [show Nat.beq n n = true from Nat.beq_refl n, aG]
 subst hn
 rfl
def qK {α : Type} (k : Nat) (E : List AV → α → Prop) (S0 X : St) (v : AV) (l : List α) : Prop :=
 (v = .nilsl ∧ l = []) ∨ ∃ b c cs, v = .sl b 0 l.length c true ∧ l.length ≤ c ∧ cs.length = c * k ∧ S0.nx ≤ b ∧ b < X.nx ∧ X.h.get b = some (.cells cs true k) ∧ 0 < c ∧ ∀ (i : Nat) (a : α), l[i]? = some a → ∃ e : List AV, e.length = k ∧ (∀ (j : Nat) (x : AV), e[j]? = some x → cs[i * k + j]? = some x) ∧ E e a
section
variable {α : Type} {k : Nat} {E E' : List AV → α → Prop} {S0 X X' : St} {v : AV} {l : List α}
theorem qK.none : qK k E S0 X .nilsl [] := .inl ⟨rfl, rfl⟩
theorem qK.move (h : qK k E S0 X v l) (hn : X.nx ≤ X'.nx) (hh : ∀ c, aP v = some c → X'.h.get c = X.h.get c) (hE : ∀ e a, E e a → E' e a) : qK k E' S0 X' v l := by
 rcases h with h | ⟨b, c, cs, rfl, h1, h2, h3, h4, h5, h6, h7⟩
 ·exact .inl h
 ·refine .inr ⟨b, c, cs, rfl, h1, h2, h3, Nat.lt_of_lt_of_le h4 hn, (hh b rfl).trans h5, h6, fun i a hi => ?_⟩
  obtain ⟨e, e1, e2, e3⟩ := h7 i a hi
  exact ⟨e, e1, e2, hE e a e3⟩
theorem qK.blk (h : qK k E S0 X v l) {c : Nat} (hc : aP v = some c) : S0.nx ≤ c ∧ c < X.nx := by
 rcases h with ⟨rfl, _⟩ | ⟨b, c', cs, rfl, h1, h2, h3, h4, h5, h6, h7⟩
 ·cases hc
 ·cases hc; exact ⟨h3, h4⟩
theorem qK.is {E2 : St → List AV → α → Prop} (h : qK k E S0 X v l) (hE : ∀ e a, E e a → E2 X e a) : aQ k E2 X v l := by
 rcases h with ⟨rfl, rfl⟩ | ⟨b, c, cs, rfl, h1, h2, h3, h4, h5, h6, h7⟩
 ·exact .inl ⟨rfl, .inl rfl⟩
 ·refine .inr ⟨b, 0, c, true, cs, rfl, h1, h4, by unfold cP; rw [h5]; rfl, fun i a hi => ?_⟩
  obtain ⟨e, e1, e2, e3⟩ := h7 i a hi
  exact ⟨e, e1, fun j x hj => by rw [Nat.zero_add]; exact e2 j x hj, hE e a e3⟩
theorem qK.cells (h : qK k E S0 X v l) : v.cells = some [v] := by
 rcases h with ⟨rfl, _⟩ | ⟨b, c, cs, rfl, _⟩ <;> rfl
theorem qK.self (h : qK k E S0 X v l) : cN v v = true := by
 rcases h with ⟨rfl, _⟩ | ⟨b, c, cs, rfl, _⟩
 ·rfl
 ·exact mP ..
theorem qK.len (h : qK k E S0 X v l) : mB v = some (.int .i64 ((l.length : Nat) : Int)) := by
 rcases h with ⟨rfl, rfl⟩ | ⟨b, c, cs, rfl, _⟩ <;> rfl
theorem tK {i j k q : Nat} (h : i < j) (hq : q < k) : i * k + q < j * k := by
 have : (i + 1) * k ≤ j * k := Nat.mul_le_mul_right k h
 rw [Nat.add_mul, Nat.one_mul] at this
 omega
theorem qK.push {bytes : Nat} {x : AV} {e : List AV} {a : α} (h : qK k E S0 X v l) (hk : 0 < k) (hS : S0.nx ≤ X.nx) (hl : kJ x = some 1) (hs : dS x X.h k 1 = some e) (he : e.length = k) (hE : E e a) (h1 : l.length + 1 ≤ room) (h2 : (l.length + 1) * bytes ≤ room) :
  ∃ v' X', fV bytes k v x X = some (v', X') ∧ qK k E S0 X' v' (l ++ [a]) ∧ X.nx ≤ X'.nx ∧ (∀ c, c < X.nx → aP v ≠ some c → X'.h.get c = X.h.get c) ∧ (∀ c, aP v' = some c → aP v = some c ∨ X.nx ≤ c) := by
 rcases h with ⟨rfl, rfl⟩ | ⟨b, c, cs, rfl, g1, g2, g3, g4, g5, g6, g7⟩
 ·refine ⟨.sl X.nx 0 1 1 true, ⟨X.h.set X.nx (some (.cells e true k)), X.nx + 1⟩, ?_, .inr ⟨X.nx, 1, e, rfl, Nat.le_refl _, by rw [he, Nat.one_mul], hS, by simp, by simp only; rw [T.get_set, if_pos rfl], Nat.one_pos, fun i a' hi => ?_⟩, by simp, fun c hc _ => (Same.alloc X _).2 c hc, fun c hc => by cases hc; exact .inr (Nat.le_refl _)⟩
  ·show (aU (kJ x) fun j => aU (dS x X.h k j) fun new => zM .nilsl bytes k j new X) = _
   rw [hl, aF, hs, aF]
   show pE bytes k 1 e X = _
   have h1' : 1 ≤ room := by simpa using h1
   have h2' : 1 * bytes ≤ room := by simpa using h2
   unfold pE
   rw [show Nat.beq 1 0 = false from rfl, aM, Nat.ble_eq_true_of_le h1', aG, Nat.ble_eq_true_of_le h2', aG]
   rfl
  ·cases i with
   | zero =>
    simp at hi
    subst hi
    exact ⟨e, he, fun j y hj => by rw [Nat.zero_mul, Nat.zero_add]; exact hj, hE⟩
   | succ i => simp at hi
 ·by_cases hc : l.length + 1 ≤ c
  ·have hp : l.length * k + e.length ≤ cs.length := by
    rw [he, g2, ← Nat.succ_mul]
    exact Nat.mul_le_mul_right k hc
   refine ⟨.sl b 0 (l.length + 1) c true, ⟨X.h.set b (some (.cells (cs.take (l.length * k) ++ e ++ cs.drop (l.length * k + e.length)) true k)), X.nx⟩, ?_, .inr ⟨b, c, cs.take (l.length * k) ++ e ++ cs.drop (l.length * k + e.length), by rw [List.length_append, List.length_singleton], by rw [List.length_append, List.length_singleton]; exact hc, by simp; omega, g3, g4, by simp only; rw [T.get_set, if_pos rfl], g6, fun i a' hi => ?_⟩, Nat.le_refl _, fun c' _ hne => ?_, fun c' hc' => .inl hc'⟩
   ·show (aU (kJ x) fun j => aU (dS x X.h k j) fun new => zM (.sl b 0 l.length c true) bytes k j new X) = _
    rw [hl, aF, hs, aF]
    show kD bytes k b 0 l.length c true 1 e X = _
    unfold kD
    rw [Nat.ble_eq_true_of_le hc, aG, show Nat.beq 1 0 = false from rfl, aM, Nat.zero_add, aCT g5 hp, aF]
   ·rw [List.getElem?_append] at hi
    split at hi
    ·rename_i hlt
     obtain ⟨e', e1, e2, e3⟩ := g7 i a' hi
     refine ⟨e', e1, fun j y hj => ?_, e3⟩
     have hjk : j < k := by rw [← e1]; exact (List.getElem?_eq_some_iff.1 hj).1
     rw [xL hp, if_pos (tK hlt hjk)]
     exact e2 j y hj
    ·rename_i hlt
     have h0 : i - l.length = 0 := by
      rcases Nat.eq_zero_or_pos (i - l.length) with h0 | h0
      ·exact h0
      ·rw [List.getElem?_eq_none (by simp; omega)] at hi
       cases hi
     rw [h0] at hi
     cases hi
     have hil : i = l.length := by omega
     subst hil
     refine ⟨e, he, fun j y hj => ?_, hE⟩
     have hjk : j < e.length := (List.getElem?_eq_some_iff.1 hj).1
     rw [xL hp, if_neg (by omega), if_pos (by omega), Nat.add_sub_cancel_left]
     exact hj
   ·simp only
    rw [T.get_set, if_neg (fun e => hne (by rw [e]; rfl))]
  ·obtain rfl : c = l.length := by omega
   refine ⟨.sl X.nx 0 (l.length + 1) (l.length + 1) true, ⟨(X.h.set b Option.none).set X.nx (some (.cells (cs ++ e) true k)), X.nx + 1⟩, ?_, .inr ⟨X.nx, l.length + 1, cs ++ e, by rw [List.length_append, List.length_singleton], by rw [List.length_append, List.length_singleton]; exact Nat.le_refl _, by rw [List.length_append, g2, he, Nat.succ_mul], hS, by simp, by simp only; rw [T.get_set, if_pos rfl], by omega, fun i a' hi => ?_⟩, by simp, fun c' hc' hne => ?_, fun c' hc' => by cases hc'; exact .inr (Nat.le_refl _)⟩
   ·show (aU (kJ x) fun j => aU (dS x X.h k j) fun new => zM (.sl b 0 l.length l.length true) bytes k j new X) = _
    rw [hl, aF, hs, aF]
    show kD bytes k b 0 l.length l.length true 1 e X = _
    unfold kD
    have e2 : Nat.ble (l.length + 1) l.length = false := by rw [Bool.eq_false_iff]; intro h; have := Nat.le_of_ble_eq_true h; omega
    rw [e2, aM, Nat.ble_eq_true_of_le h1, aG, Nat.ble_eq_true_of_le h2, aG, g5, aF]
    have e3 : cut cs 0 (l.length * k) = some cs := by
     unfold cut
     rw [fJ, fT, List.drop_zero, if_pos (by omega), List.take_of_length_le (by omega)]
    have e4 : Nat.beq (0 + l.length * k) (jM cs) = true := by rw [dR, g2, Nat.beq_eq]; omega
    have e5 : Nat.beq k k = true := Nat.beq_refl k
    simp only [vC, e3, aF, aG, e4, e5, grown, fB]
   ·rw [List.getElem?_append] at hi
    split at hi
    ·rename_i hlt
     obtain ⟨e', e1, e2, e3⟩ := g7 i a' hi
     refine ⟨e', e1, fun j y hj => ?_, e3⟩
     have hjk : j < k := by rw [← e1]; exact (List.getElem?_eq_some_iff.1 hj).1
     rw [List.getElem?_append_left (by rw [g2]; exact tK hlt hjk)]
     exact e2 j y hj
    ·rename_i hlt
     have h0 : i - l.length = 0 := by
      rcases Nat.eq_zero_or_pos (i - l.length) with h0 | h0
      ·exact h0
      ·rw [List.getElem?_eq_none (by simp; omega)] at hi
       cases hi
     rw [h0] at hi
     cases hi
     have hil : i = l.length := by omega
     subst hil
     refine ⟨e, he, fun j y hj => ?_, hE⟩
     rw [List.getElem?_append_right (by omega), g2, Nat.add_sub_cancel_left]
     exact hj
   ·simp only
    have : c' ≠ b := fun e => hne (by rw [e]; rfl)
    rw [T.get_set, if_neg (by omega), T.get_set, if_neg this]
theorem qK.set (h : qK k E S0 X v l) {i : Nat} {a : α} {e : List AV} (hi : i < l.length) (he : e.length = k) (hE : E e a) :
  ∃ b p X', eO (.slice k) v i = some (.ptr b p) ∧ aP v = some b ∧ oH (.ptr b p) k e X = some (.undef, X') ∧ qK k E S0 X' v (l.set i a) ∧ X'.nx = X.nx ∧ ∀ c, c ≠ b → X'.h.get c = X.h.get c := by
 rcases h with ⟨rfl, rfl⟩ | ⟨b, c, cs, rfl, g1, g2, g3, g4, g5, g6, g7⟩
 ·exact absurd hi (Nat.not_lt_zero i)
 ·have hp : 0 + i * k + e.length ≤ cs.length := by
   rw [he, g2, Nat.zero_add, ← Nat.succ_mul]
   exact Nat.mul_le_mul_right k (by omega)
  refine ⟨b, 0 + i * k, _, ?_, rfl, aMd g5 hp he, .inr ⟨b, c, cs.take (0 + i * k) ++ e ++ cs.drop (0 + i * k + e.length), by rw [List.length_set], by rw [List.length_set]; exact g1, by simp; omega, g3, g4, by simp only; rw [T.get_set, if_pos rfl], g6, fun j a' hj => ?_⟩, rfl, fun c' hne => by simp only; rw [T.get_set, if_neg hne]⟩
  ·show bO (Nat.blt i l.length) _ _ = _
   rw [show Nat.blt i l.length = true from Nat.ble_eq_true_of_le hi, aG]
  ·rw [List.getElem?_set] at hj
   split at hj
   ·rename_i e0
    subst e0
    try rw [if_pos hi] at hj
    cases hj
    refine ⟨e, he, fun q y hq => ?_, hE⟩
    have hqk : q < e.length := (List.getElem?_eq_some_iff.1 hq).1
    rw [xL hp, if_neg (by omega), if_pos (by omega)]
    rw [show i * k + q - (0 + i * k) = q by omega]
    exact hq
   ·rename_i hne
    obtain ⟨e', e1, e2, e3⟩ := g7 j a' hj
    refine ⟨e', e1, fun q y hq => ?_, e3⟩
    have hqk : q < k := by rw [← e1]; exact (List.getElem?_eq_some_iff.1 hq).1
    rw [xL hp]
    rcases Nat.lt_or_gt_of_ne hne with h1 | h1
    ·have : i * k + e.length ≤ j * k := by
      rw [he, ← Nat.succ_mul]
      exact Nat.mul_le_mul_right k h1
     rw [if_neg (by omega), if_neg (by omega)]
     exact e2 q y hq
    ·rw [if_pos (by have := tK h1 hqk; omega)]
     exact e2 q y hq
theorem qK.shrink (h : qK k E S0 X v l) {n : Nat} (hn : l.length = n + 1) : ∃ v', (∀ (F : Fr) (hi : cH), eF (hi.val F) = some n → pK (.slice k) v Option.none (some hi) Option.none F = some v') ∧ qK k E S0 X v' l.dropLast ∧ aP v' = aP v := by
 rcases h with ⟨rfl, rfl⟩ | ⟨b, c, cs, rfl, g1, g2, g3, g4, g5, g6, g7⟩
 ·cases hn
 ·refine ⟨.sl b 0 n c true, fun F hi hx => ?_, .inr ⟨b, c, cs, by rw [List.length_dropLast, hn]; rfl, by rw [List.length_dropLast]; omega, g2, g3, g4, g5, g6, fun i a hj => ?_⟩, rfl⟩
  ·show aEK k b 0 l.length c true Option.none (some hi) Option.none F = _
   unfold aEK
   have e1 : jE l.length c Option.none (some hi) Option.none F = some (0, n, c) := by
    unfold jE
    show (aU (some c) fun m => aU (eF (hi.val F)) fun h => aU (some 0) fun l' => _) = _
    rw [hx]
    simp only [aF]
    rw [Nat.ble_eq_true_of_le (Nat.le_refl c), aG, Nat.ble_eq_true_of_le (show n ≤ c by omega), aG, Nat.ble_eq_true_of_le (Nat.zero_le n), aG]
   rw [e1, aF]
   have e2 : Nat.beq c 0 = false := by rw [Bool.eq_false_iff]; intro h; rw [Nat.beq_eq] at h; omega
   simp only [e2, aM, Nat.zero_mul, Nat.add_zero, Nat.sub_zero]
   rfl
  ·have hlt : i < l.dropLast.length := (List.getElem?_eq_some_iff.1 hj).1
   rw [List.getElem?_dropLast] at hj
   split at hj
   ·exact g7 i a hj
   ·cases hj
end
end Go.Ev.Gl
namespace Go.Ev.Gl
variable {fns : T cA}
theorem nJ {S : St} {x n : Int} (H : Has fns) (h1 : 1 ≤ n) (h2 : n ≤ 1000000000) : iQ fns (.fn 16 [] []) [.int .i64 x, .int .i64 n] S fun r X => Same S X ∧ ∃ y, r = .int .i64 y ∧ 0 ≤ y ∧ y < n := by
 have hr := aHk (.p .int) (a := x) (b := n) (by omega)
 have hb1 := Int.tmod_lt_of_pos x (show 0 < n by omega)
 have hb2 := Int.lt_tmod_of_pos x (show 0 < n by omega)
 generalize x.tmod n = y at *
 refine cW H.f16 (by simp) ?_
 simp only [↓sU,sD,rE,↓reduceIte,rA]
 refine cI ?_
 simp only [↓sU,sD,rE,↓reduceIte,rA]
 refine cI ?_
 simp only [↓sU,sD,rE,↓reduceIte,rA, hr]
 refine kK ?_
 simp only [↓sU,sD,rE,↓reduceIte,rA]
 by_cases hy : y < 0
 ·have w1 : IntKind.i64.wrap (y + n) = y + n := wrap_i64 (by omega) (by omega)
  refine bB (by simp only [↓sU,sD,rE,↓reduceIte,rA, decide_eq_true hy]) ?_
  refine aR ?_
  simp only [↓sU,sD,rE,↓reduceIte,rA, w1]
  refine cI ?_
  simp only [↓sU,sD,rE,↓reduceIte,rA]
  refine aY ?_
  simp only [↓sU,sD,rE,↓reduceIte,rA]
  exact ⟨Same.refl _, y + n, rfl, by omega, by omega⟩
 ·refine aX (by simp only [↓sU,sD,rE,↓reduceIte,rA, decide_eq_false hy]) (aO ?_)
  try simp only [↓sU,sD,rE,↓reduceIte,rA]
  refine cI ?_
  simp only [↓sU,sD,rE,↓reduceIte,rA]
  refine aY ?_
  simp only [↓sU,sD,rE,↓reduceIte,rA]
  exact ⟨Same.refl _, y, rfl, by omega, by omega⟩
structure sO (X : St) (db : Nat) (lv : AV) (l : List Int) : Prop where
 lt : db < X.nx
 c : ∃ at' : Nat, X.h.get db = some (.cells [lv, .int .i64 (at' : Int)] false 0) ∧ at' ≤ l.length
 il : bS .i64 X lv l
 ne : aP lv ≠ some db
 bd : l.length ≤ 140737488355328
theorem sO.move {X X' : St} {db : Nat} {lv : AV} {l : List Int} (h : sO X db lv l) (hn : X.nx ≤ X'.nx) (hd : X'.h.get db = X.h.get db) (hl : ∀ c, aP lv = some c → X'.h.get c = X.h.get c) : sO X' db lv l := by
 obtain ⟨a, h1, h2⟩ := h.c
 exact ⟨Nat.lt_of_lt_of_le h.lt hn, ⟨a, hd.trans h1, h2⟩, fN h.il hn hl, h.ne, h.bd⟩
theorem lJ {X : St} {db : Nat} {lv : AV} {l : List Int} {n : Int} (H : Has fns) (h : sO X db lv l) (h1 : 1 ≤ n) (h2 : n ≤ 1000000000) : iQ fns (.fn 38 [] []) [.ptr db 0, .int .i64 n] X fun r X' => dH db X X' ∧ sO X' db lv l ∧ ∃ y, r = .int .i64 y ∧ 0 ≤ y ∧ y < n := by
 obtain ⟨a, hc, ha⟩ := h.c
 have hbd := h.bd
 have sl := bS.self h.il
 refine cW H.f38 (by simp) ?_
 simp only [↓sU,sD,rE,↓reduceIte,rA]
 refine cI ?_
 simp only [↓sU,sD,rE,↓reduceIte,rA]
 refine aE (aE (mO ?_))
 by_cases hlt : ((l.length : Nat) : Int) ≤ (a : Int)
 ·simp only [↓sU,sD,rE,↓reduceIte,rA, aS, bF, aT, aB, aN, aA, aIU hc, aGK hc, sl, h.il.len, Int.ofNat_eq_natCast, decide_eq_true (show (a : Int) ≥ ((l.length : Nat) : Int) from hlt)]
  refine bB (by simp only [↓sU,sD,rE,↓reduceIte,rA]) ?_
  refine cI ?_
  simp only [↓sU,sD,rE,↓reduceIte,rA]
  refine aY ?_
  simp only [↓sU,sD,rE,↓reduceIte,rA]
  exact ⟨⟨Nat.le_add_right _ _, fun c _ _ => rfl⟩, h.move (Nat.le_add_right _ _) rfl fun _ _ => rfl, 0, rfl, by omega, by omega⟩
 simp only [↓sU,sD,rE,↓reduceIte,rA, aS, bF, aT, aB, aN, aA, aIU hc, aGK hc, sl, h.il.len, Int.ofNat_eq_natCast, decide_eq_false (show ¬ (a : Int) ≥ ((l.length : Nat) : Int) from hlt)]
 refine aX (by simp only [↓sU,sD,rE,↓reduceIte,rA, decide_eq_false (show ¬ n < 1 by omega)]) (aO ?_)
 try simp only [↓sU,sD,rE,↓reduceIte,rA]
 have hal : a < l.length := by omega
 have w1 : IntKind.i64.wrap ((a : Int) + 1) = ((a + 1 : Nat) : Int) := by rw [wrap_i64 (by omega) (by omega)]; omega
 have w2 : IntKind.i64.wrap (((a + 1 : Nat) : Int) - 1) = (a : Int) := by rw [wrap_i64 (by omega) (by omega)]; omega
 generalize hX0 : (⟨X.h, X.nx + _⟩ : St) = X0
 have e0 : X0.h = X.h := by rw [← hX0]
 have n0 : X.nx ≤ X0.nx := by rw [← hX0]; exact Nat.le_add_right _ _
 clear hX0
 have hc0 : X0.h.get db = some (.cells [lv, .int .i64 (a : Int)] false 0) := by rw [e0]; exact hc
 refine cI ?_
 simp only [↓sU,sD,rE,↓reduceIte,rA, aS, aT, aB, aA, aGK hc0, w1]
 refine fZ (v := .undef) (S1 := ⟨X0.h.set db (some (.cells [lv, .int .i64 ((a + 1 : Nat) : Int)] false 0)), X0.nx⟩) (fun call => by simp only [↓sU,sD,rE,↓reduceIte,rA, dT, cV]; exact stc (cs := [lv, .int .i64 (a : Int)]) (p := 1) (S := X0) hc0 (by simp)) ?_
 simp only [↓sU,sD,rE,↓reduceIte,rA]
 generalize hX1 : (⟨X0.h.set db (some (.cells [lv, .int .i64 ((a + 1 : Nat) : Int)] false 0)), X0.nx⟩ : St) = X1
 have hc1 : X1.h.get db = some (.cells [lv, .int .i64 ((a + 1 : Nat) : Int)] false 0) := by rw [← hX1]; simp only; rw [T.get_set, if_pos rfl]
 have k1 : dH db X X1 := by rw [← hX1]; exact ⟨n0, fun c _ hne => by simp only; rw [T.get_set, if_neg hne, e0]⟩
 clear hX1
 have hl1 : bS .i64 X1 lv l := fN h.il k1.1 fun c hcc => k1.2 c (eM h.il hcc) fun e => h.ne (by rw [hcc, e])
 have D1 : sO X1 db lv l := ⟨Nat.lt_of_lt_of_le h.lt k1.1, ⟨a + 1, hc1, hal⟩, hl1, h.ne, h.bd⟩
 have ia := hl1.iaddr hal
 have la := hl1.ld hal
 obtain ⟨b1, o1, hp1, lb1⟩ := bS.place hl1 hal
 rw [hp1] at ia la
 have ldb := D1.lt
 refine aE (mT (fun _ => False) ?_)
 intro X2 x2
 simp only [↓sU,sD,rE,↓reduceIte,rA, aS, bF, aT, aB, aN, aA, aIU hc1, aGK hc1, sl, ldb, not_false_eq_true, w2, aL, ia, la, lb1]
 refine gE rfl ?_
 simp only [↓sU,sD,rE,↓reduceIte,rA]
 refine aW (nJ H h1 h2) ?_
 rintro _ X3 ⟨x3, y, rfl, hy1, hy2⟩
 refine ⟨x3, ?_⟩
 try simp only [↓sU,sD,rE,↓reduceIte,rA]
 refine aY ?_
 simp only [↓sU,sD,rE,↓reduceIte,rA]
 have s13 := x2.trans x3
 exact ⟨⟨Nat.le_trans k1.1 s13.1, fun c hcx hne => (s13.2 c (Nat.lt_of_lt_of_le hcx k1.1)).trans (k1.2 c hcx hne)⟩, D1.move s13.1 (s13.2 _ D1.lt) fun c hcc => s13.2 c (eM hl1 hcc), y, rfl, hy1, hy2⟩
end Go.Ev.Gl
namespace Go.Ev.Gl
variable {fns : T cA}
structure Mk where
 lvl : AV
 va : AV
 na : AV
 ia : AV
 lv : AV
 most : Int
 pend : Int
 ps : Int
 zero : Bool
 small : Bool
 dl : List Int
 nodes : List cM
 infos : List gR
 views : List (Int × Int × Int)
def PB (mb db : Nat) (m : Mk) (c : Nat) : Prop := c ≠ mb ∧ c ≠ db ∧ aP m.na ≠ some c ∧ aP m.ia ≠ some c ∧ aP m.va ≠ some c
def eI (mb db : Nat) (m : Mk) (X : St) (m' : Mk) (X' : St) : Prop := X.nx ≤ X'.nx ∧ ∀ c, c < X.nx → PB mb db m c → X'.h.get c = X.h.get c ∧ PB mb db m' c
theorem eI.refl {mb db : Nat} {m : Mk} {X : St} : eI mb db m X m X := ⟨Nat.le_refl _, fun _ _ h => ⟨rfl, h⟩⟩
theorem eI.trans {mb db : Nat} {m m' m'' : Mk} {X X' X'' : St} (h : eI mb db m X m' X') (h' : eI mb db m' X' m'' X'') : eI mb db m X m'' X'' :=
 ⟨Nat.le_trans h.1 h'.1, fun c hc hp => by
  obtain ⟨a, b⟩ := h.2 c hc hp
  obtain ⟨a', b'⟩ := h'.2 c (Nat.lt_of_lt_of_le hc h.1) b
  exact ⟨a'.trans a, b'⟩⟩
theorem eI.same {mb db : Nat} {m : Mk} {X X' : St} (h : Same X X') : eI mb db m X m X' := ⟨h.1, fun c hc hp => ⟨h.2 c hc, hp⟩⟩
def aJs (mb db : Nat) (P : Nat → Prop) (m : Mk) (X : St) (m' : Mk) (X' : St) : Prop := X.nx ≤ X'.nx ∧ ∀ c, c < X.nx → PB mb db m c → P c → X'.h.get c = X.h.get c ∧ PB mb db m' c
theorem eI.p {mb db : Nat} {P : Nat → Prop} {m m' : Mk} {X X' : St} (h : eI mb db m X m' X') : aJs mb db P m X m' X' := ⟨h.1, fun c hc hp _ => h.2 c hc hp⟩
theorem aJs.np {mb db : Nat} {P : Nat → Prop} {m m' : Mk} {X X' : St} (h : aJs mb db P m X m' X') : ∀ c, c < X.nx → (PB mb db m c ∧ P c) → X'.h.get c = X.h.get c ∧ (PB mb db m' c ∧ P c) := fun c hc hp => ⟨(h.2 c hc hp.1 hp.2).1, (h.2 c hc hp.1 hp.2).2, hp.2⟩
def PlE (_ : St) (cs : List AV) (a : Int × Int × Int) : Prop := cs = [.int .i64 a.1, .int .i64 a.2.1, .int .i64 a.2.2]
def aJL (cs : List AV) (a : gR) : Prop := cs = [.int .i64 a.player, .int .i64 a.actions]
def VwE (X : St) (P : Nat → Prop) (cs : List AV) (a : Int × Int × Int) : Prop := ∃ sv l, cs = [.int .i64 a.1, .int .i64 a.2.1, sv, .int .i64 a.2.2] ∧ bS .i64 X sv l ∧ l.length ≤ 1000 ∧ ∀ c, aP sv = some c → P c
theorem VwE.move {X X' : St} {P P' : Nat → Prop} {e : List AV} {a : Int × Int × Int} (h : VwE X P e a) (hn : X.nx ≤ X'.nx) (hh : ∀ c, c < X.nx → P c → X'.h.get c = X.h.get c ∧ P' c) : VwE X' P' e a := by
 obtain ⟨sv, l, rfl, h1, h2, h3⟩ := h
 exact ⟨sv, l, rfl, fN h1 hn fun c hc => (hh c (eM h1 hc) (h3 c hc)).1, h2, fun c hc => (hh c (eM h1 hc) (h3 c hc)).2⟩
structure MkP (P : Nat → Prop) (S0 X : St) (mb db : Nat) (m : Mk) (LV : List (Int × Int × Int)) : Prop where
 lt : mb < X.nx
 ge : S0.nx ≤ mb
 dge : S0.nx ≤ db
 ne : mb ≠ db
 dr : sO X db m.lv m.dl
 dp : ∀ c, aP m.lv = some c → PB mb db m c ∧ P c
 lev : aQ 3 PlE X m.lvl LV
 levp : ∀ c, aP m.lvl = some c → PB mb db m c ∧ P c
 nod : qK 6 (yK X fun c => PB mb db m c ∧ P c) S0 X m.na m.nodes
 inf : qK 2 aJL S0 X m.ia m.infos
 vw : qK 4 (VwE X fun c => PB mb db m c ∧ P c) S0 X m.va m.views
 d1 : ∀ c, aP m.na = some c → c ≠ mb ∧ c ≠ db ∧ aP m.ia ≠ some c ∧ aP m.va ≠ some c
 d2 : ∀ c, aP m.ia = some c → c ≠ mb ∧ c ≠ db ∧ aP m.va ≠ some c
 d3 : ∀ c, aP m.va = some c → c ≠ mb ∧ c ≠ db
def dI (db : Nat) (m : Mk) : List AV := [.ptr db 0, m.lvl, m.va, .int .i64 m.most, .int .i64 m.pend, .bool m.zero, .bool m.small, .int .i64 m.ps, m.na, m.ia]
structure kQ (P : Nat → Prop) (S0 X : St) (mb db : Nat) (m : Mk) (LV : List (Int × Int × Int)) : Prop where
 p : MkP P S0 X mb db m LV
 g : X.h.get mb = some (.cells (dI db m) false 0)
section
variable {P : Nat → Prop} {S0 X X' : St} {mb db : Nat} {m m' : Mk} {LV : List (Int × Int × Int)}
theorem aAU {k : Nat} {α : Type} {E : St → List AV → α → Prop} {v : AV} {l : List α} {c : Nat} (h : aQ k E X v l) (hc : aP v = some c) : c < X.nx := by
 rcases h with ⟨_, rfl | rfl⟩ | ⟨b, off, cap, o, cs, rfl, _, hb, _⟩
 ·cases hc
 ·cases hc
 ·cases hc; exact hb
theorem MkP.of (h : MkP P S0 X mb db m LV) (K : aJs mb db P m X m' X') (e1 : m'.lvl = m.lvl) (e2 : m'.lv = m.lv) (e3 : m'.dl = m.dl) (hdr : sO X' db m.lv m.dl) (hna : qK 6 (yK X' fun c => PB mb db m' c ∧ P c) S0 X' m'.na m'.nodes) (hia : qK 2 aJL S0 X' m'.ia m'.infos) (hva : qK 4 (VwE X' fun c => PB mb db m' c ∧ P c) S0 X' m'.va m'.views)
  (d1 : ∀ c, aP m'.na = some c → c ≠ mb ∧ c ≠ db ∧ aP m'.ia ≠ some c ∧ aP m'.va ≠ some c) (d2 : ∀ c, aP m'.ia = some c → c ≠ mb ∧ c ≠ db ∧ aP m'.va ≠ some c) (d3 : ∀ c, aP m'.va = some c → c ≠ mb ∧ c ≠ db) : MkP P S0 X' mb db m' LV where
 lt := Nat.lt_of_lt_of_le h.lt K.1
 ge := h.ge
 dge := h.dge
 ne := h.ne
 dr := by rw [e2, e3]; exact hdr
 dp := fun c hc => by rw [e2] at hc; exact (K.np c (eM h.dr.il hc) (h.dp c hc)).2
 lev := by rw [e1]; exact aQ.moveB h.lev K.1 (fun c hc => (K.np c (aAU h.lev hc) (h.levp c hc)).1) fun _ _ h => h
 levp := fun c hc => by rw [e1] at hc; exact (K.np c (aAU h.lev hc) (h.levp c hc)).2
 nod := hna
 inf := hia
 vw := hva
 d1 := d1
 d2 := d2
 d3 := d3
theorem MkP.keep (h : MkP P S0 X mb db m LV) (hn : X.nx ≤ X'.nx) (hk : ∀ c, c < X.nx → c ≠ mb → c ≠ db → X'.h.get c = X.h.get c) (hdr : sO X' db m.lv m.dl) (e1 : m'.lvl = m.lvl) (e2 : m'.lv = m.lv) (e3 : m'.dl = m.dl) (e4 : m'.na = m.na) (e5 : m'.nodes = m.nodes) (e6 : m'.ia = m.ia) (e7 : m'.infos = m.infos) (e8 : m'.va = m.va) (e9 : m'.views = m.views) : MkP P S0 X' mb db m' LV ∧ eI mb db m X m' X' := by
 have K : eI mb db m X m' X' := ⟨hn, fun c hc hp => ⟨hk c hc hp.1 hp.2.1, by unfold PB; rw [e4, e6, e8]; exact hp⟩⟩
 refine ⟨h.of K.p e1 e2 e3 hdr ?_ ?_ ?_ ?_ ?_ ?_, K⟩
 ·rw [e4, e5]
  exact h.nod.move hn (fun c hc => hk c (h.nod.blk hc).2 (h.d1 c hc).1 (h.d1 c hc).2.1) fun e a hE => hE.move hn (eI.p K).np
 ·rw [e6, e7]
  exact h.inf.move hn (fun c hc => hk c (h.inf.blk hc).2 (h.d2 c hc).1 (h.d2 c hc).2.1) fun e a hE => hE
 ·rw [e8, e9]
  exact h.vw.move hn (fun c hc => hk c (h.vw.blk hc).2 (h.d3 c hc).1 (h.d3 c hc).2) fun e a hE => hE.move hn (eI.p K).np
 ·rw [e4, e6, e8]; exact h.d1
 ·rw [e6, e8]; exact h.d2
 ·rw [e8]; exact h.d3
theorem kQ.same (h : kQ P S0 X mb db m LV) (hs : Same X X') : kQ P S0 X' mb db m LV :=
 ⟨(h.p.keep hs.1 (fun c hc _ _ => hs.2 c hc) (h.p.dr.move hs.1 (hs.2 _ h.p.dr.lt) fun c hc => hs.2 c (eM h.p.dr.il hc)) rfl rfl rfl rfl rfl rfl rfl rfl rfl).1, (hs.2 _ h.p.lt).trans h.g⟩
theorem kQ.drawn (h : kQ P S0 X mb db m LV) (hs : dH db X X') (hd : sO X' db m.lv m.dl) : kQ P S0 X' mb db m LV ∧ eI mb db m X m X' := by
 obtain ⟨a, b⟩ := h.p.keep (m' := m) hs.1 (fun c hc _ h2 => hs.2 c hc h2) hd rfl rfl rfl rfl rfl rfl rfl rfl rfl
 exact ⟨⟨a, (hs.2 _ h.p.lt h.p.ne).trans h.g⟩, b⟩
theorem MkP.put (h : MkP P S0 X mb db m LV) (g : X'.h.get mb = some (.cells (dI db m) false 0)) (hn : X.nx ≤ X'.nx) (hk : ∀ c, c < X.nx → c ≠ mb → X'.h.get c = X.h.get c) : kQ P S0 X' mb db m LV :=
 ⟨(h.keep (m' := m) hn (fun c hc h1 _ => hk c hc h1) (h.dr.move hn (hk _ h.dr.lt h.ne.symm) fun c hc => hk c (eM h.dr.il hc) (h.dp c hc).1.1) rfl rfl rfl rfl rfl rfl rfl rfl rfl).1, g⟩
theorem kQ.local (h : kQ P S0 X mb db m LV) (hn : X.nx ≤ X'.nx) (hk : ∀ c, c < X.nx → (¬ PB mb db m c ∨ P c) → X'.h.get c = X.h.get c) : kQ P S0 X' mb db m LV := by
 have K : aJs mb db P m X m X' := ⟨hn, fun c hc hp hP => ⟨hk c hc (.inr hP), hp⟩⟩
 refine ⟨h.p.of K rfl rfl rfl (h.p.dr.move hn (hk _ h.p.dr.lt (.inl fun hp => hp.2.1 rfl)) fun c hc => hk c (eM h.p.dr.il hc) (.inr (h.p.dp c hc).2)) (h.p.nod.move hn (fun c hc => hk c (h.p.nod.blk hc).2 (.inl fun hp => hp.2.2.1 hc)) fun e a hE => hE.move hn K.np) (h.p.inf.move hn (fun c hc => hk c (h.p.inf.blk hc).2 (.inl fun hp => hp.2.2.2.1 hc)) fun e a hE => hE) (h.p.vw.move hn (fun c hc => hk c (h.p.vw.blk hc).2 (.inl fun hp => hp.2.2.2.2 hc)) fun e a hE => hE.move hn K.np) h.p.d1 h.p.d2 h.p.d3, ?_⟩
 exact (hk _ h.p.lt (.inl fun hp => hp.1 rfl)).trans h.g
theorem MkP.mono {P' : Nat → Prop} (h : MkP P S0 X mb db m LV) (hP : ∀ c, c < X.nx → P c → P' c) : MkP P' S0 X mb db m LV where
 lt := h.lt
 ge := h.ge
 dge := h.dge
 ne := h.ne
 dr := h.dr
 dp := fun c hc => ⟨(h.dp c hc).1, hP c (eM h.dr.il hc) (h.dp c hc).2⟩
 lev := h.lev
 levp := fun c hc => ⟨(h.levp c hc).1, hP c (aAU h.lev hc) (h.levp c hc).2⟩
 nod := h.nod.move (Nat.le_refl _) (fun _ _ => rfl) fun e a hE => hE.move (Nat.le_refl _) fun c hc hp => ⟨rfl, hp.1, hP c hc hp.2⟩
 inf := h.inf
 vw := h.vw.move (Nat.le_refl _) (fun _ _ => rfl) fun e a hE => hE.move (Nat.le_refl _) fun c hc hp => ⟨rfl, hp.1, hP c hc hp.2⟩
 d1 := h.d1
 d2 := h.d2
 d3 := h.d3
theorem kQ.mono {P' : Nat → Prop} (h : kQ P S0 X mb db m LV) (hP : ∀ c, c < X.nx → P c → P' c) : kQ P' S0 X mb db m LV := ⟨h.p.mono hP, h.g⟩
theorem MkP.pushN (h : MkP P S0 X mb db m LV) {v' : AV} {l' : List cM} (hn : X.nx ≤ X'.nx) (hk : ∀ c, c < X.nx → aP m.na ≠ some c → X'.h.get c = X.h.get c) (hb : ∀ c, aP v' = some c → aP m.na = some c ∨ X.nx ≤ c) (ha : qK 6 (yK X fun c => PB mb db m c ∧ P c) S0 X' v' l') : MkP P S0 X' mb db { m with na := v', nodes := l' } LV ∧ eI mb db m X { m with na := v', nodes := l' } X' := by
 have K : eI mb db m X { m with na := v', nodes := l' } X' := ⟨hn, fun c hc hp => ⟨hk c hc hp.2.2.1, hp.1, hp.2.1, fun e => (hb c e).elim (fun h1 => hp.2.2.1 h1) fun h1 => absurd hc (Nat.not_lt.2 h1), hp.2.2.2.1, hp.2.2.2.2⟩⟩
 have old : ∀ {c}, aP m.na = some c → c < X.nx := fun hc => (h.nod.blk hc).2
 refine ⟨h.of K.p rfl rfl rfl (h.dr.move hn (hk _ h.dr.lt fun e => (h.d1 _ e).2.1 rfl) fun c hc => hk c (eM h.dr.il hc) (h.dp c hc).1.2.2.1) (ha.move (Nat.le_refl _) (fun _ _ => rfl) fun e a hE => hE.move hn (eI.p K).np) (h.inf.move hn (fun c hc => hk c (h.inf.blk hc).2 fun e => (h.d1 c e).2.2.1 hc) fun e a hE => hE) (h.vw.move hn (fun c hc => hk c (h.vw.blk hc).2 fun e => (h.d1 c e).2.2.2 hc) fun e a hE => hE.move hn (eI.p K).np) (fun c hc => ?_) h.d2 h.d3, K⟩
 rcases hb c hc with h1 | h1
 ·exact h.d1 c h1
 ·exact ⟨by have := h.lt; omega, by have := h.dr.lt; omega, fun e => by have := (h.inf.blk e).2; omega, fun e => by have := (h.vw.blk e).2; omega⟩
theorem MkP.pushI (h : MkP P S0 X mb db m LV) {v' : AV} {l' : List gR} (hn : X.nx ≤ X'.nx) (hk : ∀ c, c < X.nx → aP m.ia ≠ some c → X'.h.get c = X.h.get c) (hb : ∀ c, aP v' = some c → aP m.ia = some c ∨ X.nx ≤ c) (ha : qK 2 aJL S0 X' v' l') : MkP P S0 X' mb db { m with ia := v', infos := l' } LV ∧ eI mb db m X { m with ia := v', infos := l' } X' := by
 have K : eI mb db m X { m with ia := v', infos := l' } X' := ⟨hn, fun c hc hp => ⟨hk c hc hp.2.2.2.1, hp.1, hp.2.1, hp.2.2.1, fun e => (hb c e).elim (fun h1 => hp.2.2.2.1 h1) fun h1 => absurd hc (Nat.not_lt.2 h1), hp.2.2.2.2⟩⟩
 refine ⟨h.of K.p rfl rfl rfl (h.dr.move hn (hk _ h.dr.lt fun e => (h.d2 _ e).2.1 rfl) fun c hc => hk c (eM h.dr.il hc) (h.dp c hc).1.2.2.2.1) (h.nod.move hn (fun c hc => hk c (h.nod.blk hc).2 (h.d1 c hc).2.2.1) fun e a hE => hE.move hn (eI.p K).np) ha (h.vw.move hn (fun c hc => hk c (h.vw.blk hc).2 fun e => (h.d2 c e).2.2 hc) fun e a hE => hE.move hn (eI.p K).np) (fun c hc => ⟨(h.d1 c hc).1, (h.d1 c hc).2.1, fun e => ?_, (h.d1 c hc).2.2.2⟩) (fun c hc => ?_) h.d3, K⟩
 ·rcases hb c e with h1 | h1
  ·exact (h.d1 c hc).2.2.1 h1
  ·have := (h.nod.blk hc).2
   omega
 ·rcases hb c hc with h1 | h1
  ·exact h.d2 c h1
  ·exact ⟨by have := h.lt; omega, by have := h.dr.lt; omega, fun e => by have := (h.vw.blk e).2; omega⟩
theorem MkP.pushV (h : MkP P S0 X mb db m LV) {v' : AV} {l' : List (Int × Int × Int)} (hn : X.nx ≤ X'.nx) (hk : ∀ c, c < X.nx → aP m.va ≠ some c → X'.h.get c = X.h.get c) (hb : ∀ c, aP v' = some c → aP m.va = some c ∨ X.nx ≤ c) (ha : qK 4 (VwE X fun c => PB mb db m c ∧ P c) S0 X' v' l') : MkP P S0 X' mb db { m with va := v', views := l' } LV ∧ eI mb db m X { m with va := v', views := l' } X' := by
 have K : eI mb db m X { m with va := v', views := l' } X' := ⟨hn, fun c hc hp => ⟨hk c hc hp.2.2.2.2, hp.1, hp.2.1, hp.2.2.1, hp.2.2.2.1, fun e => (hb c e).elim (fun h1 => hp.2.2.2.2 h1) fun h1 => absurd hc (Nat.not_lt.2 h1)⟩⟩
 refine ⟨h.of K.p rfl rfl rfl (h.dr.move hn (hk _ h.dr.lt fun e => (h.d3 _ e).2 rfl) fun c hc => hk c (eM h.dr.il hc) (h.dp c hc).1.2.2.2.2) (h.nod.move hn (fun c hc => hk c (h.nod.blk hc).2 (h.d1 c hc).2.2.2) fun e a hE => hE.move hn (eI.p K).np) (h.inf.move hn (fun c hc => hk c (h.inf.blk hc).2 (h.d2 c hc).2.2) fun e a hE => hE) (ha.move (Nat.le_refl _) (fun _ _ => rfl) fun e a hE => hE.move hn (eI.p K).np) (fun c hc => ⟨(h.d1 c hc).1, (h.d1 c hc).2.1, (h.d1 c hc).2.2.1, fun e => ?_⟩) (fun c hc => ⟨(h.d2 c hc).1, (h.d2 c hc).2.1, fun e => ?_⟩) (fun c hc => ?_), K⟩
 ·rcases hb c e with h1 | h1
  ·exact (h.d1 c hc).2.2.2 h1
  ·have := (h.nod.blk hc).2
   omega
 ·rcases hb c e with h1 | h1
  ·exact (h.d2 c hc).2.2 h1
  ·have := (h.inf.blk hc).2
   omega
 ·rcases hb c hc with h1 | h1
  ·exact h.d3 c h1
  ·exact ⟨by have := h.lt; omega, by have := h.dr.lt; omega⟩
end
end Go.Ev.Gl
namespace Go.Ev.Gl
variable {fns : T cA}
noncomputable def aLc : List AO := [⟨(some 16),(.q (.faddr 5 (.t 4))),none,0⟩,
⟨(some 17),(.q (.ld false 1 (.t 16))),none,1⟩,
⟨(some 18),(.q (.mv (.t 0))),none,0⟩,
⟨(some 19),(.q (.nilchk (.t 18))),none,4⟩,
⟨(some 20),(.q (.faddr 0 (.t 19))),none,12⟩,
⟨(some 21),(.q (.ld false 1 (.t 20))),none,28⟩,
⟨(some 22),(.x (.call (.c (.fn 38 [] [])) [(.t 21),(.c (.int .i64 (.ofNat 7)))])),none,60⟩,
⟨(some 23),(.q (.bin .sub (.p .int) (.t 22) (.c (.int .i64 (.ofNat 3))))),none,124⟩,
⟨(some 24),(.a (.bslice 3 1 1 [(.int .i64 (.ofNat 0))] [(0,(.t 23))])),none,252⟩]
noncomputable def aK8 : List AO := [⟨(some 25),(.x (.app 3 1 8 (.t 17) (.t 24))),none,511⟩,
⟨(some 26),(.q (.faddr 5 (.t 4))),none,1023⟩,
⟨none,(.x (.st 1 (.t 26) (.t 25))),none,2047⟩]
def aM7 (X : St) (F : Fr) (db : Nat) (lv pv : AV) (dl : List Int) (F' : Fr) (Z : St) (ps : List gI) : Prop := ∃ w : Int, -3 ≤ w ∧ w ≤ 3 ∧ ps = [⟨8, X.nx + 8, .cells [.int .i64 w] false 0⟩] ∧ X.nx + 12 ≤ Z.nx ∧ dH db X Z ∧ sO Z db lv dl ∧ (∀ j, j < 6 → aC j F' = aC j F) ∧ aC 17 F' = pv ∧ aC 24 F' = .sl (X.nx + 8) 0 1 1 false
set_option maxHeartbeats 4000000 in
theorem aJK {ops : List AO} {P : Nat → Prop} {S0 Y0 X : St} {F : Fr} {inr : Bool} {mb db xb : Nat} {m : Mk} {LV : List (Int × Int × Int)} {k p f xa xw pv : AV} {l : List Int} {Q : Out → bT → St → Prop} (H : Has fns) (he : ops = aLc ++ aK8) (hM : kQ P S0 X mb db m LV) (p0 : aC 0 F = .ptr mb 0) (p4 : aC 4 F = .ptr xb 0) (gx : X.h.get xb = some (.cells [k, p, f, xa, xw, pv] false 0)) (hx : PB mb db m xb ∧ ¬ P xb) (lx : xb < Y0.nx) (hY : Y0.nx ≤ X.nx) (hg : gQ 1 Y0 X pv l.length (bD l)) (hb : ∀ c, aP pv = some c → PB mb db m c ∧ ¬ P c) (hP : ∀ c, X.nx ≤ c → ¬ P c) (hl : l.length ≤ 1000)
  (hQ : ∀ F' Z pv' w, (∀ j, j < 6 → aC j F' = aC j F) → kQ P S0 Z mb db m LV → X.nx ≤ Z.nx → (∀ c, c < X.nx → PB mb db m c → c ≠ xb → aP pv ≠ some c → Z.h.get c = X.h.get c) → Z.h.get xb = some (.cells [k, p, f, xa, xw, pv'] false 0) → gQ 1 Y0 Z pv' (l ++ [w]).length (bD (l ++ [w])) → (∀ c, aP pv' = some c → X.nx ≤ c) → -3 ≤ w → w ≤ 3 → Q .normal ⟨F', inr⟩ Z) : lZ fns (.drw ops) ⟨F, inr⟩ X Q := by
 have hlen : ops.length = 12 := by rw [he]; rfl
 have lxX : xb < X.nx := Nat.lt_of_lt_of_le lx hY
 have lmX := hM.p.lt
 have nxd : xb ≠ db := hx.1.2.1
 have nmd := hM.p.ne
 have gm0 := cQ (p := 0) hM.g rfl
 have sp := hg.self
 refine aAT (W := fun c => c = db) (K := 9) (R := aM7 X F db m.lv pv m.dl) he rfl rfl (fun X1 x1 hh1 nn1 => ?_) ?_
 ·have gxl := cQ (p := 5) gx rfl
  unfold aLc
  simp only [↓sU,sD,rE,↓reduceIte,rA, p0, p4, aS, bF, aT, aB, aN, aA, gxl, gm0, sp, lxX, lmX, nxd, nmd, not_false_eq_true]
  refine jG rfl ?_
  simp only [↓sU,sD,rE,↓reduceIte,rA]
  refine aW (lJ H (hM.same x1).p.dr (n := 7) (by decide) (by decide)) ?_
  rintro _ X2 ⟨x2, d2, y, rfl, y1, y2⟩
  refine ⟨⟨x2.1, fun c hc hne => x2.2 c (Nat.lt_of_lt_of_le hc x1.1) hne⟩, ?_⟩
  have w1 : IntKind.i64.wrap (y - 3) = y - 3 := wrap_i64 (by omega) (by omega)
  have he1 := fun (F : Fr) (id : Nat) (h : aC 23 F = .int .i64 (y - 3)) => nE (t := 3) (z := .int .i64 0) (x := .t 23) (F := F) (id := id) (k := .i64) (n := y - 3) h
  simp only [↓sU,sD,rE,↓reduceIte,rA, w1, he1]
  refine ⟨y - 3, by omega, by omega, by simp only [↓sU,sD,rE,↓reduceIte,rA], (by have h9 : X1.nx ≤ X2.nx := x2.1; omega), ⟨Nat.le_trans x1.1 x2.1, fun c hc hne => (x2.2 c (Nat.lt_of_lt_of_le hc x1.1) hne).trans (x1.2 c hc)⟩, d2, fun j hj => ?_, by simp only [↓sU,sD,rE,↓reduceIte,rA], by simp only [↓sU,sD,rE,↓reduceIte,rA]⟩
  have : j = 0 ∨ j = 1 ∨ j = 2 ∨ j = 3 ∨ j = 4 ∨ j = 5 := by omega
  rcases this with rfl | rfl | rfl | rfl | rfl | rfl <;> simp only [↓sU,sD,rE,↓reduceIte,rA]
 rintro F' S' ps hs ls ⟨w, w1, w2, rfl, nZ, sZ, dZ, hk, pA, pB⟩ hlast hld
 have p4' : aC 4 F' = .ptr xb 0 := (hk 4 (by omega)).trans p4
 have m1 : ∀ i, i < 9 → Nat.testBit 511 i = true := by decide
 have hMZ := (hM.drawn sZ dZ).1
 obtain ⟨U, hU⟩ : ∃ U : St, U = ⟨S'.h.set (X.nx + 8) (some (.cells [.int .i64 w] false 0)), S'.nx⟩ := ⟨_, rfl⟩
 have nU : U.nx = S'.nx := by rw [hU]
 have kU : ∀ c, c ≠ X.nx + 8 → U.h.get c = S'.h.get c := fun c hc => by rw [hU]; simp only; rw [T.get_set, if_neg hc]
 have gU : U.h.get (X.nx + 8) = some (.cells [.int .i64 w] false 0) := by rw [hU]; simp only; rw [T.get_set, if_pos rfl]
 have lowv : ∀ {c}, aP pv = some c → Y0.nx ≤ c ∧ c < X.nx := fun hc => ⟨(hg.blk hc).1, (hg.blk hc).2.1⟩
 have hgU : gQ 1 ⟨U.h, Y0.nx⟩ U pv l.length (bD l) := hg.move (by omega) fun c hc => by
  rw [kU c (by have := (lowv hc).2; omega)]
  exact sZ.2 c (lowv hc).2 (hb c hc).1.2.1
 obtain ⟨pv', V, eA, gA, bA, nA, rA⟩ := gQ.push (bytes := 8) (t := X.nx + 8) (w := w) hgU ⟨by show Y0.nx ≤ U.nx; omega, fun _ _ => rfl⟩ gU (by unfold room; omega) (by unfold room; omega)
 have gxS : S'.h.get xb = some (.cells [k, p, f, xa, xw, pv] false 0) := (sZ.2 xb lxX nxd).trans gx
 have gxV : V.h.get xb = some (.cells [k, p, f, xa, xw, pv] false 0) := by
  rw [rA xb (by omega) (fun e => by have := (lowv e).1; omega), kU xb (by omega)]
  exact gxS
 have hbA : ∀ {c}, aP pv' = some c → c = U.nx := fun hc => by rw [bA] at hc; exact (Option.some.inj hc).symm
 unfold aK8
 refine kL (v := pv') (S1 := V) (hlast _ m1) (fun call => ?_) ?_
 ·rw [cR (show Nat.testBit 511 8 = true by decide), gH]
  simp only [iG, pA, pB]
  rw [← hU]
  exact eA
 rw [cR (show Nat.testBit 511 8 = true by decide)]
 simp only [iR, dJ, aB, aA, aN, aM, iG, bX, bJ, p4', rE, ↓reduceIte, rA]
 have gAc : pv'.cells = some [pv'] := gQ.cells gA
 refine kL (v := .undef) (S1 := ⟨V.h.set xb (some (.cells [k, p, f, xa, xw, pv'] false 0)), V.nx⟩) (show Nat.testBit 2047 9 = true by decide) (fun call => ?_) ?_
 ·rw [dT]
  simp only [iG, bJ, rE, ↓reduceIte, bX, gAc, aF]
  exact stc (cs := [k, p, f, xa, xw, pv]) (p := 5) (S := V) gxV (by simp)
 rw [jQ]
 refine ⟨?_, ?_⟩
 ·simp only [List.reverse_cons, List.append_assoc, List.singleton_append, List.cons_append, List.nil_append]
  exact hld _ _ _ m1
 ·simp only [bX, fX]
  have kV : ∀ c, c < S'.nx → c ≠ X.nx + 8 → c ≠ xb → aP pv ≠ some c → (V.h.set xb (some (.cells [k, p, f, xa, xw, pv'] false 0))).get c = S'.h.get c := fun c hc h1 h2 h3 => by
   rw [T.get_set, if_neg h2, rA c (by omega) h3, kU c h1]
  refine hQ _ _ pv' w (fun j hj => ?_) (hMZ.local (by show S'.nx ≤ V.nx; omega) fun c hc hor => ?_) (by show X.nx ≤ V.nx; omega) (fun c hc hp h1 h2 => ?_) (by simp only; rw [T.get_set, if_pos rfl]) ?_ (fun c hc => by have := hbA hc; omega) w1 w2
  ·rw [bJ, if_neg (by omega), bJ, if_neg (by omega)]
   exact hk j hj
  ·refine kV c hc (fun e => ?_) (fun e => ?_) (fun e => ?_)
   ·rcases hor with h | h
    ·refine h ⟨by omega, ?_, fun e' => ?_, fun e' => ?_, fun e' => ?_⟩
     ·have := hM.p.dr.lt; omega
     ·have := (hM.p.nod.blk e').2; omega
     ·have := (hM.p.inf.blk e').2; omega
     ·have := (hM.p.vw.blk e').2; omega
    ·exact hP c (by omega) h
   ·rcases hor with h | h
    ·exact h (by rw [e]; exact hx.1)
    ·exact hx.2 (by rw [← e]; exact h)
   ·rcases hor with h | h
    ·exact h (hb c e).1
    ·exact (hb c e).2 h
  ·simp only
   rw [kV c (by omega) (by omega) h1 h2]
   exact sZ.2 c hc hp.2.1
  ·refine gQ.move (S := V) (by exact gA) (Nat.le_refl _) fun c hc => ?_
   have := hbA hc
   simp only
   rw [T.get_set, if_neg (by omega)]
noncomputable def aLe : List AO := [⟨(some 139),(.q (.faddr 4 (.t 11))),none,0⟩,
⟨(some 140),(.q (.ld false 1 (.t 139))),none,1⟩,
⟨(some 141),(.q (.mv (.t 0))),none,0⟩,
⟨(some 142),(.q (.nilchk (.t 141))),none,4⟩,
⟨(some 143),(.q (.faddr 0 (.t 142))),none,12⟩,
⟨(some 144),(.q (.ld false 1 (.t 143))),none,28⟩,
⟨(some 145),(.x (.call (.c (.fn 38 [] [])) [(.t 144),(.c (.int .i64 (.ofNat 3)))])),none,60⟩,
⟨(some 146),(.q (.bin .add (.p .int) (.c (.int .i64 (.ofNat 1))) (.t 145))),none,124⟩,
⟨(some 147),(.a (.bslice 3 1 1 [(.int .i64 (.ofNat 0))] [(0,(.t 146))])),none,252⟩]
noncomputable def aK0 : List AO := [⟨(some 148),(.x (.app 3 1 8 (.t 140) (.t 147))),none,511⟩,
⟨(some 149),(.q (.faddr 4 (.t 11))),none,1023⟩,
⟨none,(.x (.st 1 (.t 149) (.t 148))),none,2047⟩]
def aMT (X : St) (F : Fr) (db : Nat) (lv pv : AV) (dl : List Int) (F' : Fr) (Z : St) (ps : List gI) : Prop := ∃ w : Int, 1 ≤ w ∧ w ≤ 3 ∧ ps = [⟨8, X.nx + 8, .cells [.int .i64 w] false 0⟩] ∧ X.nx + 12 ≤ Z.nx ∧ dH db X Z ∧ sO Z db lv dl ∧ (∀ j, j < 16 → aC j F' = aC j F) ∧ aC 140 F' = pv ∧ aC 147 F' = .sl (X.nx + 8) 0 1 1 false
set_option maxHeartbeats 4000000 in
theorem aIM {ops : List AO} {P : Nat → Prop} {S0 Y0 X : St} {F : Fr} {inr : Bool} {mb db xb : Nat} {m : Mk} {LV : List (Int × Int × Int)} {k p f xa pv xp : AV} {l : List Int} {Q : Out → bT → St → Prop} (H : Has fns) (he : ops = aLe ++ aK0) (hM : kQ P S0 X mb db m LV) (p0 : aC 0 F = .ptr mb 0) (p4 : aC 11 F = .ptr xb 0) (gx : X.h.get xb = some (.cells [k, p, f, xa, pv, xp] false 0)) (hx : PB mb db m xb ∧ ¬ P xb) (lx : xb < Y0.nx) (hY : Y0.nx ≤ X.nx) (hg : gQ 1 Y0 X pv l.length (bD l)) (hb : ∀ c, aP pv = some c → PB mb db m c ∧ ¬ P c) (hP : ∀ c, X.nx ≤ c → ¬ P c) (hl : l.length ≤ 1000)
  (hQ : ∀ F' Z pv' w, (∀ j, j < 16 → aC j F' = aC j F) → kQ P S0 Z mb db m LV → X.nx ≤ Z.nx → (∀ c, c < X.nx → PB mb db m c → c ≠ xb → aP pv ≠ some c → Z.h.get c = X.h.get c) → Z.h.get xb = some (.cells [k, p, f, xa, pv', xp] false 0) → gQ 1 Y0 Z pv' (l ++ [w]).length (bD (l ++ [w])) → (∀ c, aP pv' = some c → X.nx ≤ c) → 1 ≤ w → w ≤ 3 → Q .normal ⟨F', inr⟩ Z) : lZ fns (.drw ops) ⟨F, inr⟩ X Q := by
 have hlen : ops.length = 12 := by rw [he]; rfl
 have lxX : xb < X.nx := Nat.lt_of_lt_of_le lx hY
 have lmX := hM.p.lt
 have nxd : xb ≠ db := hx.1.2.1
 have nmd := hM.p.ne
 have gm0 := cQ (p := 0) hM.g rfl
 have sp := hg.self
 refine aAT (W := fun c => c = db) (K := 9) (R := aMT X F db m.lv pv m.dl) he rfl rfl (fun X1 x1 hh1 nn1 => ?_) ?_
 ·have gxl := cQ (p := 4) gx rfl
  unfold aLe
  simp only [↓sU,sD,rE,↓reduceIte,rA, p0, p4, aS, bF, aT, aB, aN, aA, gxl, gm0, sp, lxX, lmX, nxd, nmd, not_false_eq_true]
  refine jG rfl ?_
  simp only [↓sU,sD,rE,↓reduceIte,rA]
  refine aW (lJ H (hM.same x1).p.dr (n := 3) (by decide) (by decide)) ?_
  rintro _ X2 ⟨x2, d2, y, rfl, y1, y2⟩
  refine ⟨⟨x2.1, fun c hc hne => x2.2 c (Nat.lt_of_lt_of_le hc x1.1) hne⟩, ?_⟩
  have w1 : IntKind.i64.wrap (1 + y) = 1 + y := wrap_i64 (by omega) (by omega)
  have he1 := fun (F : Fr) (id : Nat) (h : aC 146 F = .int .i64 (1 + y)) => nE (t := 3) (z := .int .i64 0) (x := .t 146) (F := F) (id := id) (k := .i64) (n := 1 + y) h
  simp only [↓sU,sD,rE,↓reduceIte,rA, w1, he1]
  refine ⟨1 + y, by omega, by omega, by simp only [↓sU,sD,rE,↓reduceIte,rA], (by have h9 : X1.nx ≤ X2.nx := x2.1; omega), ⟨Nat.le_trans x1.1 x2.1, fun c hc hne => (x2.2 c (Nat.lt_of_lt_of_le hc x1.1) hne).trans (x1.2 c hc)⟩, d2, fun j hj => ?_, by simp only [↓sU,sD,rE,↓reduceIte,rA], by simp only [↓sU,sD,rE,↓reduceIte,rA]⟩
  have : j = 0 ∨ j = 1 ∨ j = 2 ∨ j = 3 ∨ j = 4 ∨ j = 5 ∨ j = 6 ∨ j = 7 ∨ j = 8 ∨ j = 9 ∨ j = 10 ∨ j = 11 ∨ j = 12 ∨ j = 13 ∨ j = 14 ∨ j = 15 := by omega
  rcases this with rfl | rfl | rfl | rfl | rfl | rfl | rfl | rfl | rfl | rfl | rfl | rfl | rfl | rfl | rfl | rfl <;> simp only [↓sU,sD,rE,↓reduceIte,rA]
 rintro F' S' ps hs ls ⟨w, w1, w2, rfl, nZ, sZ, dZ, hk, pA, pB⟩ hlast hld
 have p4' : aC 11 F' = .ptr xb 0 := (hk 11 (by omega)).trans p4
 have m1 : ∀ i, i < 9 → Nat.testBit 511 i = true := by decide
 have hMZ := (hM.drawn sZ dZ).1
 obtain ⟨U, hU⟩ : ∃ U : St, U = ⟨S'.h.set (X.nx + 8) (some (.cells [.int .i64 w] false 0)), S'.nx⟩ := ⟨_, rfl⟩
 have nU : U.nx = S'.nx := by rw [hU]
 have kU : ∀ c, c ≠ X.nx + 8 → U.h.get c = S'.h.get c := fun c hc => by rw [hU]; simp only; rw [T.get_set, if_neg hc]
 have gU : U.h.get (X.nx + 8) = some (.cells [.int .i64 w] false 0) := by rw [hU]; simp only; rw [T.get_set, if_pos rfl]
 have lowv : ∀ {c}, aP pv = some c → Y0.nx ≤ c ∧ c < X.nx := fun hc => ⟨(hg.blk hc).1, (hg.blk hc).2.1⟩
 have hgU : gQ 1 ⟨U.h, Y0.nx⟩ U pv l.length (bD l) := hg.move (by omega) fun c hc => by
  rw [kU c (by have := (lowv hc).2; omega)]
  exact sZ.2 c (lowv hc).2 (hb c hc).1.2.1
 obtain ⟨pv', V, eA, gA, bA, nA, rA⟩ := gQ.push (bytes := 8) (t := X.nx + 8) (w := w) hgU ⟨by show Y0.nx ≤ U.nx; omega, fun _ _ => rfl⟩ gU (by unfold room; omega) (by unfold room; omega)
 have gxS : S'.h.get xb = some (.cells [k, p, f, xa, pv, xp] false 0) := (sZ.2 xb lxX nxd).trans gx
 have gxV : V.h.get xb = some (.cells [k, p, f, xa, pv, xp] false 0) := by
  rw [rA xb (by omega) (fun e => by have := (lowv e).1; omega), kU xb (by omega)]
  exact gxS
 have hbA : ∀ {c}, aP pv' = some c → c = U.nx := fun hc => by rw [bA] at hc; exact (Option.some.inj hc).symm
 unfold aK0
 refine kL (v := pv') (S1 := V) (hlast _ m1) (fun call => ?_) ?_
 ·rw [cR (show Nat.testBit 511 8 = true by decide), gH]
  simp only [iG, pA, pB]
  rw [← hU]
  exact eA
 rw [cR (show Nat.testBit 511 8 = true by decide)]
 simp only [iR, dJ, aB, aA, aN, aM, iG, bX, bJ, p4', rE, ↓reduceIte, rA]
 have gAc : pv'.cells = some [pv'] := gQ.cells gA
 refine kL (v := .undef) (S1 := ⟨V.h.set xb (some (.cells [k, p, f, xa, pv', xp] false 0)), V.nx⟩) (show Nat.testBit 2047 9 = true by decide) (fun call => ?_) ?_
 ·rw [dT]
  simp only [iG, bJ, rE, ↓reduceIte, bX, gAc, aF]
  exact stc (cs := [k, p, f, xa, pv, xp]) (p := 4) (S := V) gxV (by simp)
 rw [jQ]
 refine ⟨?_, ?_⟩
 ·simp only [List.reverse_cons, List.append_assoc, List.singleton_append, List.cons_append, List.nil_append]
  exact hld _ _ _ m1
 ·simp only [bX, fX]
  have kV : ∀ c, c < S'.nx → c ≠ X.nx + 8 → c ≠ xb → aP pv ≠ some c → (V.h.set xb (some (.cells [k, p, f, xa, pv', xp] false 0))).get c = S'.h.get c := fun c hc h1 h2 h3 => by
   rw [T.get_set, if_neg h2, rA c (by omega) h3, kU c h1]
  refine hQ _ _ pv' w (fun j hj => ?_) (hMZ.local (by show S'.nx ≤ V.nx; omega) fun c hc hor => ?_) (by show X.nx ≤ V.nx; omega) (fun c hc hp h1 h2 => ?_) (by simp only; rw [T.get_set, if_pos rfl]) ?_ (fun c hc => by have := hbA hc; omega) w1 w2
  ·rw [bJ, if_neg (by omega), bJ, if_neg (by omega)]
   exact hk j hj
  ·refine kV c hc (fun e => ?_) (fun e => ?_) (fun e => ?_)
   ·rcases hor with h | h
    ·refine h ⟨by omega, ?_, fun e' => ?_, fun e' => ?_, fun e' => ?_⟩
     ·have := hM.p.dr.lt; omega
     ·have := (hM.p.nod.blk e').2; omega
     ·have := (hM.p.inf.blk e').2; omega
     ·have := (hM.p.vw.blk e').2; omega
    ·exact hP c (by omega) h
   ·rcases hor with h | h
    ·exact h (by rw [e]; exact hx.1)
    ·exact hx.2 (by rw [← e]; exact h)
   ·rcases hor with h | h
    ·exact h (hb c e).1
    ·exact (hb c e).2 h
  ·simp only
   rw [kV c (by omega) (by omega) h1 h2]
   exact sZ.2 c hc hp.2.1
  ·refine gQ.move (S := V) (by exact gA) (Nat.le_refl _) fun c hc => ?_
   have := hbA hc
   simp only
   rw [T.get_set, if_neg (by omega)]
end Go.Ev.Gl
namespace Go.Ev.Gl
variable {fns : T cA}
noncomputable def aMl : List AO := [⟨(some 39),(.q (.faddr 5 (.t 4))),none,0⟩,
⟨(some 40),(.q (.ld false 1 (.t 39))),none,1⟩,
⟨(some 41),(.q (.faddr 5 (.t 4))),none,0⟩,
⟨(some 42),(.q (.ld false 1 (.t 41))),none,4⟩,
⟨(some 43),(.q (.iaddr (.slice 1) (.t 42) (.c (.int .i64 (.ofNat 0))))),none,12⟩,
⟨(some 44),(.q (.ld false 1 (.t 43))),none,28⟩,
⟨(some 45),(.q (.un .neg (.t 44))),none,60⟩,
⟨(some 46),(.q (.iaddr (.slice 1) (.t 40) (.c (.int .i64 (.ofNat 1))))),none,127⟩]
noncomputable def aMv : List AO := [⟨(some 47),(.q (.mv (.t 0))),none,0⟩,
⟨(some 48),(.q (.nilchk (.t 47))),none,1⟩,
⟨(some 49),(.q (.faddr 7 (.t 48))),none,3⟩,
⟨(some 50),(.q (.faddr 1 (.t 49))),none,7⟩,
⟨(some 51),(.q (.ld false 1 (.t 50))),none,15⟩,
⟨(some 52),(.q (.mv (.t 1))),none,0⟩,
⟨(some 53),(.q (.ld true 6 (.t 4))),none,0⟩,
⟨(some 54),(.q (.iaddr (.slice 6) (.t 51) (.t 52))),none,127⟩]
theorem MkP.fresh {P : Nat → Prop} {S0 X : St} {mb db c : Nat} {m : Mk} {LV : List (Int × Int × Int)} (h : MkP P S0 X mb db m LV) (hc : X.nx ≤ c) : PB mb db m c :=
 ⟨by have := h.lt; omega, by have := h.dr.lt; omega, fun e => by have := (h.nod.blk e).2; omega, fun e => by have := (h.inf.blk e).2; omega, fun e => by have := (h.vw.blk e).2; omega⟩
theorem kQ.setN {P : Nat → Prop} {S0 X : St} {mb db i : Nat} {m : Mk} {LV : List (Int × Int × Int)} {e : List AV} {x : cM} (h : kQ P S0 X mb db m LV) (hi : i < m.nodes.length) (he : yK X (fun c => PB mb db m c ∧ P c) e x) :
  ∃ b p X', eO (.slice 6) m.na i = some (.ptr b p) ∧ b < X.nx ∧ oH (.ptr b p) 6 e X = some (.undef, X') ∧ X'.nx = X.nx ∧ kQ P S0 X' mb db { m with nodes := m.nodes.set i x } LV ∧ eI mb db m X { m with nodes := m.nodes.set i x } X' := by
 have he6 : e.length = 6 := by obtain ⟨_, _, _, rfl, _⟩ := he; rfl
 obtain ⟨b, p, X', h1, h2, h3, h4, h5, h6⟩ := h.p.nod.set hi he6 he
 have hb := (h.p.nod.blk h2).2
 obtain ⟨k1, k2⟩ := h.p.pushN (v' := m.na) (l' := m.nodes.set i x) (X' := X') (by omega) (fun c _ hc => h6 c fun e => hc (by rw [e]; exact h2)) (fun c hc => .inl hc) h4
 exact ⟨b, p, X', h1, hb, h3, h5, ⟨k1, (h6 mb fun e => (h.p.d1 b h2).1 e.symm).trans h.g⟩, k2⟩
structure aL3 (ps : Int) (x : cM) : Prop where
 kind : x.kind = 3
 player : x.player = 0
 info : x.info = 0
 next : x.next = []
 wts : x.weights = []
 len : ((x.pay.length : Nat) : Int) = ps
 pay : ∀ w ∈ x.pay, -3 ≤ w ∧ w ≤ 3
theorem aLL {F : Fr} {h : Ev.T AB} {a : Int} : gP (.build [.int .i64 0, .int .i64 0, .int .i64 0, .nilsl, .nilsl, .nilsl] [(0, 1, .c (.int .i64 a))]) F h = some (.agg [.int .i64 a, .int .i64 0, .int .i64 0, .nilsl, .nilsl, .nilsl]) := rfl
def aM2 (P : Nat → Prop) (S0 X X2 : St) (mb db at_ : Nat) (m : Mk) (LV : List (Int × Int × Int)) (k : Nat) (A : bT) (Y : St) : Prop := A.inr = false ∧ kQ P S0 Y mb db m LV ∧ X2.nx ≤ Y.nx ∧ (∀ c, c < X.nx → PB mb db m c → Y.h.get c = X.h.get c) ∧ ∃ (pv : AV) (l : List Int), l.length + k = m.ps.toNat ∧ (∀ w ∈ l, -3 ≤ w ∧ w ≤ 3) ∧ Y.h.get X.nx = some (.cells [.int .i64 3, .int .i64 0, .int .i64 0, .nilsl, .nilsl, pv] false 0) ∧ gQ 1 X2 Y pv l.length (bD l) ∧ (∀ c, aP pv = some c → PB mb db m c) ∧ aC 0 A.F = .ptr mb 0 ∧ aC 1 A.F = .int .i64 (at_ : Int) ∧ aC 4 A.F = .ptr X.nx 0 ∧ aC 5 A.F = .int .i64 ((l.length : Nat) : Int)
set_option maxHeartbeats 8000000 in
theorem aHK {P : Nat → Prop} {S0 X : St} {mb db at_ : Nat} {m : Mk} {LV : List (Int × Int × Int)} (H : Has fns) (hM : kQ P S0 X mb db m LV) (hat : at_ < m.nodes.length) (hps : 1 ≤ m.ps ∧ m.ps ≤ 4) :
  iQ fns (.fn 128 [] []) [.ptr mb 0, .int .i64 (at_ : Int)] X fun _ Z => ∃ x, aL3 m.ps x ∧ kQ (fun c => P c ∨ X.nx ≤ c) S0 Z mb db { m with nodes := m.nodes.set at_ x } LV ∧ eI mb db m X { m with nodes := m.nodes.set at_ x } Z := by
 have hM0 : kQ (fun c => P c ∧ c < X.nx) S0 X mb db m LV := hM.mono fun c hc hp => ⟨hp, hc⟩
 have hbld := fun (F : Fr) (h : Ev.T AB) => aLL (F := F) (h := h) (a := 3)
 refine cW H.f128 (by simp) ?_
 simp only [↓sU,sD,rE,↓reduceIte,rA]
 refine cI ?_
 simp only [↓aJ,aH,rE,↓reduceIte, rA, hbld]
 refine dD ?_
 intro X1 x1 n1 g1
 refine eH (b := X.nx) (cs' := [.int .i64 3, .int .i64 0, .int .i64 0, .nilsl, .nilsl, .nilsl]) (by simp only [↓aJ,aH,rE,↓reduceIte, rA]) (by simp only [↓aJ,aH,rE,↓reduceIte, rA]; exact bK _) g1 rfl rfl ?_
 intro X2 x2 n2 g2
 simp only [↓aJ,aH,rE,↓reduceIte, rA]
 have s2 : Same X X2 := x2.same x1 (Nat.le_refl _)
 have hM2 := hM0.same s2
 have lx : X.nx < X2.nx := by omega
 have hfx : PB mb db m X.nx := hM.p.fresh (Nat.le_refl _)
 refine aE (bP (Q := fun o A' Y => o = .normal ∧ aM2 (fun c => P c ∧ c < X.nx) S0 X X2 mb db at_ m LV 0 A' Y) (aE (aR ?_)) ?_)
 ·simp only [↓sU,sD,rE,↓reduceIte,rA]
  refine bE (cS (aM2 (fun c => P c ∧ c < X.nx) S0 X X2 mb db at_ m LV) ?_ m.ps.toNat _ _ ⟨rfl, hM2, Nat.le_refl _, fun c hc _ => s2.2 c hc, .nilsl, [], by simp, fun w hw => (by cases hw), g2, .inl ⟨rfl, rfl, rfl⟩, fun c hc => (by cases hc), by simp only [↓sU,sD,rE,↓reduceIte,rA], by simp only [↓sU,sD,rE,↓reduceIte,rA], by simp only [↓sU,sD,rE,↓reduceIte,rA], by simp only [↓sU,sD,rE,↓reduceIte,rA]; try rfl⟩)
  rintro k ⟨F, inr⟩ Y ⟨q0, hY, nY, kY, pv, l, hlk, hwl, gY, hg, hb, p0, p1, p4, p5⟩
  simp only at q0 p0 p1 p4 p5
  subst q0
  have f7 := cQ (p := 7) hY.g rfl
  have hps' : ((m.ps.toNat : Nat) : Int) = m.ps := Int.toNat_of_nonneg (by omega)
  refine kK ?_
  simp only [↓sU,sD,rE,↓reduceIte,rA, p0, p5, aS, aT, aB, aA, f7]
  by_cases hlt : ((l.length : Nat) : Int) < m.ps
  rotate_left
  ·refine aX (by simp only [↓sU,sD,rE,↓reduceIte,rA, decide_eq_false hlt]) (cL ?_)
   simp only [↓sU,sD,rE,↓reduceIte,rA]
   obtain rfl : k = 0 := by omega
   exact ⟨rfl, hY, nY, kY, pv, l, hlk, hwl, gY, hg, hb, by simp only [↓sU,sD,rE,↓reduceIte,rA, p0], by simp only [↓sU,sD,rE,↓reduceIte,rA, p1], by simp only [↓sU,sD,rE,↓reduceIte,rA, p4], by simp only [↓sU,sD,rE,↓reduceIte,rA, p5]⟩
  refine bB (by simp only [↓sU,sD,rE,↓reduceIte,rA, decide_eq_true hlt]) (aO ?_)
  try simp only [↓sU,sD,rE,↓reduceIte,rA]
  have w1 : IntKind.i64.wrap (((l.length : Nat) : Int) + 1) = ((l.length + 1 : Nat) : Int) := by rw [wrap_i64 (by omega) (by omega)]; omega
  refine aE (bE ?_)
  refine aJK (Y0 := X2) (mb := mb) (db := db) (xb := X.nx) (m := m) (LV := LV) (pv := pv) (l := l) H rfl hY (by simp only [↓sU,sD,rE,↓reduceIte,rA, p0]) (by simp only [↓sU,sD,rE,↓reduceIte,rA, p4]) gY ⟨hfx, fun h => Nat.lt_irrefl _ h.2⟩ lx nY hg (fun c hc => ⟨hb c hc, fun h => by have := (hg.blk hc).1; omega⟩) (fun c hc h => by omega) (by omega) ?_
  intro F' Z pv' w hk hZ nZ kZ gZ hgZ hbZ w2 w3
  have q0 := hk 0 (by omega)
  have q1 := hk 1 (by omega)
  have q4 := hk 4 (by omega)
  have q5 := hk 5 (by omega)
  simp only [↓sU,sD,rE,↓reduceIte,rA, p0, p1, p4, p5] at q0 q1 q4 q5
  try simp only [↓sU,sD,rE,↓reduceIte,rA]
  refine aR ?_
  simp only [↓sU,sD,rE,↓reduceIte,rA, q5, w1]
  exact ⟨k - 1, by omega, rfl, hZ, by omega, fun c hc hp => (kZ c (by omega) hp (by omega) (fun e => by have := (hg.blk e).1; omega)).trans (kY c hc hp), pv', l ++ [w], by rw [List.length_append, List.length_singleton]; omega, fun v hv => by
   rcases List.mem_append.1 hv with h | h
   ·exact hwl v h
   ·rw [List.mem_singleton.1 h]; exact ⟨w2, w3⟩, gZ, hgZ, fun c hc => hY.p.fresh (hbZ c hc), by simp only [↓sU,sD,rE,↓reduceIte,rA, q0], by simp only [↓sU,sD,rE,↓reduceIte,rA, q1], by simp only [↓sU,sD,rE,↓reduceIte,rA, q4], by simp only [↓sU,sD,rE,↓reduceIte,rA]; rw [List.length_append, List.length_singleton]⟩
 rintro o ⟨F, inr⟩ Y ⟨rfl, q0, hY, nY, kY, pv, l, hlk, hwl, gY, hg, hb, p0, p1, p4, p5⟩
 simp only at q0 p0 p1 p4
 subst q0
 have hps' : ((m.ps.toNat : Nat) : Int) = m.ps := Int.toNat_of_nonneg (by omega)
 have f5 := cQ (p := 5) hY.g rfl
 have f7 := cQ (p := 7) hY.g rfl
 have lpv := cQ (p := 5) gY rfl
 have lxY : X.nx < Y.nx := by omega
 try simp only [↓sU,sD,rE,↓reduceIte,rA]
 refine aE (bP (Q := fun o A' Z => o = .normal ∧ A'.inr = false ∧ kQ (fun c => P c ∧ c < X.nx) S0 Z mb db m LV ∧ X2.nx ≤ Z.nx ∧ (∀ c, c < X.nx → PB mb db m c → Z.h.get c = X.h.get c) ∧ (∃ l' : List Int, l'.length = m.ps.toNat ∧ (∀ w ∈ l', -3 ≤ w ∧ w ≤ 3) ∧ Z.h.get X.nx = some (.cells [.int .i64 3, .int .i64 0, .int .i64 0, .nilsl, .nilsl, pv] false 0) ∧ gQ 1 X2 Z pv l'.length (bD l')) ∧ aC 0 A'.F = .ptr mb 0 ∧ aC 1 A'.F = .int .i64 (at_ : Int) ∧ aC 4 A'.F = .ptr X.nx 0) (aE (aR ?_)) ?_)
 ·by_cases hz : m.zero = true ∧ m.ps = 2
  ·obtain ⟨hz, hp2⟩ := hz
   rw [hz] at f5
   simp only [↓sU,sD,rE,↓reduceIte,rA, p0, aS, aT, aB, aA, f5, f7]
   refine bB (by simp only [↓sU,sD,rE,↓reduceIte,rA, decide_eq_true hp2]) ?_
   have hl2 : l.length = 2 := by omega
   have hl0 : 0 < l.length := by omega
   have hl1 : 1 < l.length := by omega
   have hIs := hg.is
   have i0 := hIs.iaddr hl0
   have i1 := hIs.iaddr hl1
   have v0 := hIs.ld hl0
   have spv := hg.self
   rcases hg with ⟨_, h, _⟩ | ⟨b, rfl, hb0, hb1, hbg, hbl⟩
   ·omega
   have eia : ∀ j, eO (.slice 1) (.sl b 0 l.length l.length true) j = if j < l.length then some (.ptr b (0 + j * 1)) else none := fun j => by
    show bO (Nat.blt j l.length) _ _ = _
    rw [cC]
    by_cases h : j < l.length
    ·rw [if_pos h, if_pos (show Nat.blt j l.length = true from Nat.ble_eq_true_of_le h)]
    ·rw [if_neg h, if_neg (show ¬ Nat.blt j l.length = true from fun e => h (Nat.le_of_ble_eq_true (show Nat.ble (j + 1) l.length = true from e)))]
   have i1' := eia 1
   rw [if_pos hl1] at i1'
   have hw0 := hwl _ (aJO hl0)
   have w1 : IntKind.i64.wrap (-(l.getD 0 0)) = -(l.getD 0 0) := wrap_i64 (by omega) (by omega)
   refine qN (pre := aMl) (K := 8) (m := 255) (n := 1) (x := .t 46) (v := .t 45) rfl rfl rfl rfl ?_
   unfold aMl
   simp only [↓sU,sD,rE,↓reduceIte,rA, p4, aB, aN, aA, lpv, spv, aCC, i0, v0, aJb, w1, show eF (.int .i64 1) = some 1 from rfl, i1']
   simp only [cV, aF]
   have hst := aAd (S := ⟨Y.h, Y.nx + 9⟩) (p := 0 + 1 * 1) (w := -(l.getD 0 0)) hbg (by omega)
   refine ⟨_, hst, ?_⟩
   have hbb : PB mb db m b := hb b rfl
   refine ⟨hY.local (Nat.le_add_right _ _) fun c hc hor => ?_, by show X2.nx ≤ Y.nx + 9; omega, fun c hc hp => ?_, ⟨l.set (0 + 1 * 1) (-(l.getD 0 0)), by rw [List.length_set]; omega, fun w hw => ?_, ?_, .inr ⟨b, by rw [List.length_set], hb0, by show b < Y.nx + 9; omega, by simp only; rw [T.get_set, if_pos rfl], by simp [bD]⟩⟩, p0, p1⟩
   ·simp only
    rw [T.get_set, if_neg]
    intro e
    subst e
    rcases hor with h | h
    ·exact h hbb
    ·have := h.2; omega
   ·simp only
    rw [T.get_set, if_neg (by omega)]
    exact kY c hc hp
   ·rcases List.mem_or_eq_of_mem_set hw with h | h
    ·exact hwl w h
    ·omega
   ·simp only
    rw [T.get_set, if_neg (by omega)]
    exact gY
  ·have hres : ∀ (o : Out) (A' : bT) (Z : St), True := fun _ _ _ => trivial
   have fin : (∃ l' : List Int, l'.length = m.ps.toNat ∧ (∀ w ∈ l', -3 ≤ w ∧ w ≤ 3) ∧ Y.h.get X.nx = some (.cells [.int .i64 3, .int .i64 0, .int .i64 0, .nilsl, .nilsl, pv] false 0) ∧ gQ 1 X2 Y pv l'.length (bD l')) := ⟨l, by omega, hwl, gY, hg⟩
   cases hzz : m.zero with
   | false =>
    rw [hzz] at f5
    simp only [↓sU,sD,rE,↓reduceIte,rA, p0, aS, aT, aB, aA, f5]
    refine aX (by simp only [↓sU,sD,rE,↓reduceIte,rA]) (aO ?_)
    simp only [↓sU,sD,rE,↓reduceIte,rA, p0, p1, p4]
    exact ⟨hY, nY, kY, fin⟩
   | true =>
    rw [hzz] at f5
    simp only [↓sU,sD,rE,↓reduceIte,rA, p0, aS, aT, aB, aA, f5, f7]
    refine aX (by simp only [↓sU,sD,rE,↓reduceIte,rA, decide_eq_false (show ¬ m.ps = 2 from fun h => hz ⟨hzz, h⟩)]) (aO ?_)
    simp only [↓sU,sD,rE,↓reduceIte,rA, p0, p1, p4]
    exact ⟨hY, nY, kY, fin⟩
 clear p0 p1 p4 p5 f5 f7 lpv lxY hg hb hwl gY kY nY hY hlk l
 rintro o ⟨F, inr⟩ Z ⟨rfl, q0, hZ, nZ, kZ, ⟨l, hll, hwl, gZ, hg⟩, p0, p1, p4⟩
 simp only at q0 p0 p1 p4
 subst q0
 try simp only [↓sU,sD,rE,↓reduceIte,rA]
 have f8 := cQ (p := 8) hZ.g rfl
 have lag := ldN gZ
 have sna := hZ.p.nod.self
 have spv := hg.self
 have sx := qB (k := .i64) (x0 := 3) (x1 := 0) (x2 := 0) (a := .nilsl) (b := .nilsl) (c := pv) rfl rfl spv
 have hZ' : kQ (fun c => P c ∨ X.nx ≤ c) S0 ⟨Z.h, Z.nx + 9⟩ mb db m LV := (hZ.same (Same.nx Z 9)).mono fun c _ h => .inl h.1
 have hIs : bS .i64 ⟨Z.h, Z.nx + 9⟩ pv l := (hg.step (Same.nx Z 9)).is
 obtain ⟨b, p, X', e1, e2, e3, e4, e5, e6⟩ := hZ'.setN (i := at_) (e := [.int .i64 3, .int .i64 0, .int .i64 0, .nilsl, .nilsl, pv]) (x := ⟨3, 0, 0, [], [], l⟩) hat ⟨.nilsl, .nilsl, pv, rfl, .inl ⟨rfl, .inl rfl⟩, .inl ⟨rfl, .inl rfl⟩, hIs, fun c hc => by
  rcases hc with hc | hc | hc
  ·cases hc
  ·cases hc
  ·have h9 := (hg.blk hc).1
   exact ⟨hM.p.fresh (by omega), .inr (by omega)⟩⟩
 refine qN (pre := aMv) (K := 8) (m := 255) (n := 6) (x := .t 54) (v := .t 53) rfl rfl rfl rfl ?_
 unfold aMv
 simp only [↓sU,sD,rE,↓reduceIte,rA, p0, p1, p4, aS, bF, aT, aB, aN, aA, f8, sna, lag, sx, aL, e1]
 rw [show (AV.agg [.int .i64 3, .int .i64 0, .int .i64 0, .nilsl, .nilsl, pv]).cells = some [.int .i64 3, .int .i64 0, .int .i64 0, .nilsl, .nilsl, pv] from bK _, aF]
 refine ⟨X', e3, _, rfl, ⟨3, 0, 0, [], [], l⟩, ⟨rfl, rfl, rfl, rfl, rfl, by show ((l.length : Nat) : Int) = _; omega, hwl⟩, e5, ⟨by rw [e4]; show X.nx ≤ Z.nx + 9; omega, fun c hc hp => ?_⟩⟩
 obtain ⟨k1, k2⟩ := e6.2 c (by show c < Z.nx + 9; omega) hp
 exact ⟨k1.trans (kZ c hc hp), k2⟩
end Go.Ev.Gl
namespace Go.Ev.Gl
variable {fns : T cA}
def hot (o : AO) : Bool := match o.op with | .q q => dG q | .a _ => false | .x _ => true
def aJw (I : Nat → Prop) (D : DS) : Prop := (∀ e ∈ D.hs, I e.1) ∧ ∀ l ∈ D.ls, I l.i
theorem aKJ {I : Nat → Prop} {call : dV} {o : AO} {i base : Nat} {D D' : DS} (h : pG o i base call D = some D') (hi : hot o = true → I i) (hD : aJw I D) : aJw I D' := by
 unfold pG at h
 cases hw : dW o.grd D.F with
 | false => rw [hw, aM] at h; cases h; exact hD
 | true =>
  rw [hw, aG] at h
  obtain ⟨d, op, g, m⟩ := o
  cases op with
  | q q =>
   have h : aU (gP q D.F D.S.h) (fun v => some (⟨cG d D.F v, D.S, D.ps, D.hs, bO (dG q) (⟨q, D.F, v, i, m⟩ :: D.ls) D.ls⟩ : DS)) = some D' := h
   cases he : gP q D.F D.S.h with
   | none => rw [he] at h; cases h
   | some v =>
    rw [he, aF] at h
    cases h
    refine ⟨hD.1, fun l hl => ?_⟩
    simp only at hl
    cases hq : dG q with
    | false => rw [hq, aM] at hl; exact hD.2 l hl
    | true =>
     rw [hq, aG] at hl
     rcases List.mem_cons.1 hl with rfl | hl
     ·exact hi hq
     ·exact hD.2 l hl
  | a a =>
   have h : aU (sN a D.F (base + i)) (fun r => some (⟨cG d D.F r.1, D.S, ⟨i, base + i, r.2⟩ :: D.ps, D.hs, D.ls⟩ : DS)) = some D' := h
   cases he : sN a D.F (base + i) with
   | none => rw [he] at h; cases h
   | some v => rw [he, aF] at h; cases h; exact hD
  | x x =>
   have h : bO (iK D.hs m) (aU (xP x call D.F ⟨(cE m D.ps D.S.h).2, D.S.nx⟩) fun r => some (⟨cG d D.F r.1, r.2, (cE m D.ps D.S.h).1, (i, m, r.2.h) :: D.hs, D.ls⟩ : DS)) none = some D' := h
   cases hl : iK D.hs m with
   | false => rw [hl, aM] at h; cases h
   | true =>
    rw [hl, aG] at h
    cases he : xP x call D.F ⟨(cE m D.ps D.S.h).2, D.S.nx⟩ with
    | none => rw [he] at h; cases h
    | some v =>
     rw [he, aF] at h
     cases h
     refine ⟨fun e he => ?_, hD.2⟩
     rcases List.mem_cons.1 he with rfl | he
     ·exact hi rfl
     ·exact hD.1 e he
theorem aFk {I : Nat → Prop} {call : dV} {base : Nat} : ∀ {l : List AO} {i : Nat} {D D' : DS}, sM l i base call D = some D' → (∀ j o, l[j]? = some o → hot o = true → I (i + j)) → aJw I D → aJw I D'
 | [], i, D, D', h, _, hD => by cases h; exact hD
 | o :: os, i, D, D', h, hI, hD => by
  have h : aU (pG o i base call D) (fun D' => sM os (i + 1) base call D') = some D' := h
  cases he : pG o i base call D with
  | none => rw [he] at h; cases h
  | some D1 =>
   rw [he, aF] at h
   exact aFk h (fun j o' hj ho => by have := hI (j + 1) o' hj ho; rwa [show i + 1 + j = i + (j + 1) by omega]) (aKJ he (fun ho => hI 0 o rfl ho) hD)
theorem aBZ {W : Nat → Prop} {h0 : T AB} {base K m : Nat} {h' : T AB} {r : List (Nat × Nat × T AB)} {l : jJ} (h : cN l.v l.v = true ∧ aDm W base l.q l.F ∧ gP l.q l.F h0 = some l.v) (hl : l.mask < 2 ^ K) (hm : Nat.testBit m l.i = true) : ∀ {hs : List (Nat × Nat × T AB)} {h1 : T AB}, (∀ e ∈ hs, ∀ b, b < base → ¬ W b → e.2.2.get b = h0.get b) → (∀ b, b < base → ¬ W b → h1.get b = h0.get b) → eG l (hs ++ (K, m, h') :: r) h1 = true
 | [], h1, _, hh => by
  have e1 : lM l.v (gP l.q l.F h1) = true := by rw [h.2.1.ev hh, h.2.2]; exact h.1
  have e2 : Nat.testBit l.mask K = false := Nat.testBit_lt_two_pow hl
  show eG l ((K, m, h') :: r) h1 = true
  unfold eG
  rw [e2, aM, e1, aG, hm, aG]
 | (i, mm, h2) :: rr, h1, hs, hh => by
  have e1 : lM l.v (gP l.q l.F h1) = true := by rw [h.2.1.ev hh, h.2.2]; exact h.1
  have e2 : eG l (rr ++ (K, m, h') :: r) h2 = true := aBZ h hl hm (fun e he => hs e (by simp [he])) (hs (i, mm, h2) (by simp))
  show eG l ((i, mm, h2) :: (rr ++ (K, m, h') :: r)) h1 = true
  unfold eG
  rw [e1, e2]
  cases Nat.testBit l.mask i <;> cases Nat.testBit mm l.i <;> rfl
theorem aB1 (m0 : Nat) {W : Nat → Prop} {ops pre suf : List AO} {K : Nat} {A : bT} {S : St} {Q : Out → bT → St → Prop} {R : Fr → St → List gI → Prop} (he : ops = pre ++ suf) (hK : pre.length = K) (hm : (pre.all fun o => decide (o.mask < 2 ^ K)) = true) (hI : ((List.range K).all fun j => match pre[j]? with | some o => !hot o || Nat.testBit m0 j | none => true) = true)
  (h : ∀ S1, Same S S1 → S1.h = S.h → S1.nx = S.nx + ops.length → fH fns W S.h S.nx pre 0 A.F S1 [] none R)
  (h2 : ∀ F S' ps hs ls, R F S' ps → iK hs m0 = true → (∀ h' r, fC S.h (hs.reverse ++ (K, m0, h') :: r) ls = true) → vT fns suf K S.nx ⟨F, S', ps, hs, ls⟩ fun D' => fC S.h D'.hs.reverse D'.ls = true ∧ Q .normal ⟨D'.F, A.inr⟩ ⟨(cE (2 ^ ops.length - 1) D'.ps D'.S.h).2, D'.S.nx⟩) : lZ fns (.drw ops) A S Q := by
 refine rT ?_
 obtain ⟨n, D', e1, e2, e3⟩ := kO (fns := fns) (i := 0) (D := ⟨A.F, ⟨S.h, S.nx + ops.length⟩, [], [], []⟩) (last := none) ⟨fun _ _ _ => rfl, Nat.le_add_right _ _, fun e he => (by cases he), fun l hl => (by cases hl), fun p hp => (by cases hp)⟩ rfl (h ⟨S.h, S.nx + ops.length⟩ (Same.nx S _) rfl rfl)
 have low : Low K D' := aB6 e1 (by omega) (fun o ho => by have := List.all_eq_true.1 hm o ho; simpa using this) ⟨fun e he => (by cases he), fun l hl => (by cases hl)⟩
 have idx : aJw (fun i => Nat.testBit m0 i = true) D' := aFk e1 (fun j o hj ho => by
  have hlt : j < K := by rw [← hK]; exact (List.getElem?_eq_some_iff.1 hj).1
  have := List.all_eq_true.1 hI j (List.mem_range.2 hlt)
  rw [hj] at this
  simp only [ho, Bool.not_true, Bool.false_or] at this
  rwa [Nat.zero_add]) ⟨fun e he => (by cases he), fun l hl => (by cases hl)⟩
 obtain ⟨F, S', ps, hs, ls⟩ := D'
 have hh := h2 F S' ps hs ls e2 (by
  cases hs with
  | nil => rfl
  | cons e r => exact idx.1 e (List.mem_cons_self ..)) (fun h' r => lE fun l hl => aBZ (e3.lds l hl) (low.2 l hl).2 (idx.2 l hl) (fun e he => e3.chain e (List.mem_reverse.1 he)) (fun _ _ _ => rfl))
 have : vT fns ops 0 S.nx ⟨A.F, ⟨S.h, S.nx + ops.length⟩, [], [], []⟩ fun D' => fC S.h D'.hs.reverse D'.ls = true ∧ Q .normal ⟨D'.F, A.inr⟩ ⟨(cE (2 ^ ops.length - 1) D'.ps D'.S.h).2, D'.S.nx⟩ := by
  subst he
  refine aG2 ⟨n, _, e1, ?_⟩
  rw [Nat.zero_add, hK]
  exact hh
 exact this
theorem aLC {t : Nat} {x : cH} {F : Fr} {id : Nat} {a b c d z0 z1 z2 z3 : AV} (hx : x.val F = .agg [a, b, c, d]) : sN (.bslice t 4 1 [z0, z1, z2, z3] [(0, x)]) F id = some (.sl id 0 1 1 false, .cells [a, b, c, d] false 0) := by
 show (aU (dY (repeatL [z0, z1, z2, z3] 1) [(0 * 4, 4, x.val F)]) fun cs => some (AV.sl id 0 1 1 false, AB.cells cs false 0)) = _
 rw [hx]
 show (aU (aU (AV.cells (.agg [a, b, c, d])) _) _) = _
 rw [bK, aF]
 rfl
theorem aLx {t : Nat} {x : cH} {F : Fr} {id : Nat} {a b c z0 z1 z2 : AV} (hx : x.val F = .agg [a, b, c]) : sN (.bslice t 3 1 [z0, z1, z2] [(0, x)]) F id = some (.sl id 0 1 1 false, .cells [a, b, c] false 0) := by
 show (aU (dY (repeatL [z0, z1, z2] 1) [(0 * 3, 3, x.val F)]) fun cs => some (AV.sl id 0 1 1 false, AB.cells cs false 0)) = _
 rw [hx]
 show (aU (aU (AV.cells (.agg [a, b, c])) _) _) = _
 rw [bK, aF]
 rfl
theorem aLj {t : Nat} {x : cH} {F : Fr} {id : Nat} {a b z0 z1 : AV} (hx : x.val F = .agg [a, b]) : sN (.bslice t 2 1 [z0, z1] [(0, x)]) F id = some (.sl id 0 1 1 false, .cells [a, b] false 0) := by
 show (aU (dY (repeatL [z0, z1] 1) [(0 * 2, 2, x.val F)]) fun cs => some (AV.sl id 0 1 1 false, AB.cells cs false 0)) = _
 rw [hx]
 show (aU (aU (AV.cells (.agg [a, b])) _) _) = _
 rw [bK, aF]
 rfl
theorem aIw {S : St} {t n : Nat} {cs : List AV} {o : Bool} {sz : Nat} (h : S.h.get t = some (.cells cs o sz)) (hn : cs.length = n) : dS (.sl t 0 1 1 false) S.h n 1 = some cs := by
 show aU (cP S.h t) (fun c => cut c 0 (1 * n)) = _
 unfold cP
 rw [h]
 show cut cs 0 (1 * n) = some cs
 unfold cut
 rw [fJ, fT, List.drop_zero, Nat.one_mul, if_pos (by omega), List.take_of_length_le (by omega)]
end Go.Ev.Gl
namespace Go.Ev.Gl
variable {fns : T cA}
noncomputable def aLb : List AO := [⟨(some 45),(.q (.mv (.t 0))),none,0⟩,
⟨(some 46),(.q (.mv (.t 0))),none,0⟩,
⟨(some 47),(.q (.nilchk (.t 46))),none,2⟩,
⟨(some 48),(.q (.faddr 2 (.t 47))),none,6⟩,
⟨(some 49),(.q (.ld false 1 (.t 48))),none,14⟩,
⟨(some 50),(.q (.mv (.t 1))),none,0⟩,
⟨(some 51),(.q (.mv (.t 2))),none,0⟩,
⟨(some 52),(.q (.mv (.t 3))),none,0⟩,
⟨(some 53),(.q (.mv (.t 0))),none,0⟩,
⟨(some 54),(.q (.nilchk (.t 53))),none,256⟩,
⟨(some 55),(.q (.faddr 7 (.t 54))),none,768⟩,
⟨(some 56),(.q (.faddr 2 (.t 55))),none,1792⟩,
⟨(some 57),(.q (.ld false 1 (.t 56))),none,3840⟩,
⟨(some 58),(.q (.lenSl (.t 57))),none,7936⟩,
⟨(some 59),(.q (.build [(.int .i64 (.ofNat 0)),(.int .i64 (.ofNat 0)),.nilsl,(.int .i64 (.ofNat 0))] [(0,1,(.t 50)),(1,1,(.t 51)),(2,1,(.t 52)),(3,1,(.t 58))])),none,16352⟩,
⟨(some 60),(.a (.bslice 227 4 1 [(.int .i64 (.ofNat 0)),(.int .i64 (.ofNat 0)),.nilsl,(.int .i64 (.ofNat 0))] [(0,(.t 59))])),none,32736⟩]
noncomputable def aKZ : List AO := [⟨(some 61),(.x (.app 227 4 48 (.t 49) (.t 60))),none,65534⟩,
⟨(some 62),(.q (.nilchk (.t 45))),none,131071⟩,
⟨(some 63),(.q (.faddr 2 (.t 62))),none,262143⟩,
⟨none,(.x (.st 1 (.t 63) (.t 61))),none,524287⟩]
noncomputable def aK1 : List AO := [⟨(some 64),(.q (.mv (.t 0))),none,0⟩,
⟨(some 65),(.q (.mv (.t 0))),none,0⟩,
⟨(some 66),(.q (.nilchk (.t 65))),none,2⟩,
⟨(some 67),(.q (.faddr 7 (.t 66))),none,6⟩,
⟨(some 68),(.q (.faddr 2 (.t 67))),none,14⟩,
⟨(some 69),(.q (.ld false 1 (.t 68))),none,30⟩,
⟨(some 70),(.q (.mv (.t 1))),none,0⟩,
⟨(some 71),(.q (.mv (.t 0))),none,0⟩,
⟨(some 72),(.q (.nilchk (.t 71))),none,128⟩,
⟨(some 73),(.q (.faddr 0 (.t 72))),none,384⟩,
⟨(some 74),(.q (.ld false 1 (.t 73))),none,896⟩,
⟨(some 75),(.x (.call (.c (.fn 38 [] [])) [(.t 74),(.c (.int .i64 (.ofNat 3)))])),none,1920⟩,
⟨(some 76),(.q (.bin .add (.p .int) (.c (.int .i64 (.ofNat 1))) (.t 75))),none,3968⟩,
⟨(some 77),(.q (.build [(.int .i64 (.ofNat 0)),(.int .i64 (.ofNat 0))] [(0,1,(.t 70)),(1,1,(.t 76))])),none,8128⟩,
⟨(some 78),(.a (.bslice 48 2 1 [(.int .i64 (.ofNat 0)),(.int .i64 (.ofNat 0))] [(0,(.t 77))])),none,16320⟩]
noncomputable def aLd : List AO := [⟨(some 79),(.x (.app 48 2 16 (.t 69) (.t 78))),none,32766⟩,
⟨(some 80),(.q (.nilchk (.t 64))),none,65535⟩,
⟨(some 81),(.q (.faddr 7 (.t 80))),none,131071⟩,
⟨(some 82),(.q (.faddr 2 (.t 81))),none,262143⟩,
⟨none,(.x (.st 1 (.t 82) (.t 79))),none,524287⟩]
theorem aNY {F : Fr} {h : Ev.T AB} {pl lev n : Int} {sv : AV} (h50 : aC 50 F = .int .i64 pl) (h51 : aC 51 F = .int .i64 lev) (h52 : aC 52 F = sv) (h58 : aC 58 F = .int .i64 n) (hc : sv.cells = some [sv]) : gP (.build [.int .i64 0, .int .i64 0, .nilsl, .int .i64 0] [(0, 1, .t 50), (1, 1, .t 51), (2, 1, .t 52), (3, 1, .t 58)]) F h = some (.agg [.int .i64 pl, .int .i64 lev, sv, .int .i64 n]) := by
 show (aU (dY _ (dO F [(0, 1, .t 50), (1, 1, .t 51), (2, 1, .t 52), (3, 1, .t 58)])) fun cs => some (AV.agg cs)) = _
 simp only [dO, show (cH.t 50).val F = .int .i64 pl from h50, show (cH.t 51).val F = .int .i64 lev from h51, show (cH.t 52).val F = sv from h52, show (cH.t 58).val F = .int .i64 n from h58, dY, cV, hc, aF]
 rfl
theorem aNG {F : Fr} {h : Ev.T AB} {pl a : Int} (h70 : aC 70 F = .int .i64 pl) (h76 : aC 76 F = .int .i64 a) : gP (.build [.int .i64 0, .int .i64 0] [(0, 1, .t 70), (1, 1, .t 76)]) F h = some (.agg [.int .i64 pl, .int .i64 a]) := by
 show (aU (dY _ (dO F [(0, 1, .t 70), (1, 1, .t 76)])) fun cs => some (AV.agg cs)) = _
 simp only [dO, show (cH.t 70).val F = .int .i64 pl from h70, show (cH.t 76).val F = .int .i64 a from h76, dY, cV, aF]
 rfl
theorem eI.put {mb db : Nat} {m : Mk} {X : St} {w : Option AB} : eI mb db m X m ⟨X.h.set mb w, X.nx⟩ :=
 ⟨Nat.le_refl _, fun c _ hp => ⟨by simp only; rw [T.get_set, if_neg hp.1], hp⟩⟩
theorem aJT {k : IntKind} {X : St} {v : AV} {l : List Int} (h : bS k X v l) : v.cells = some [v] := bS.cells h
def aM1 (X : St) (F : Fr) (mb : Nat) (va sv : AV) (pl lev n : Int) (F' : Fr) (Z : St) (ps : List gI) : Prop := ps = [⟨15, X.nx + 15, .cells [.int .i64 pl, .int .i64 lev, sv, .int .i64 n] false 0⟩] ∧ Z.h = X.h ∧ Z.nx = X.nx + 20 ∧ (∀ j, j < 10 → aC j F' = aC j F) ∧ aC 45 F' = .ptr mb 0 ∧ aC 49 F' = va ∧ aC 60 F' = .sl (X.nx + 15) 0 1 1 false
set_option maxHeartbeats 4000000 in
theorem aJu {ops : List AO} {P : Nat → Prop} {S0 X : St} {F : Fr} {inr : Bool} {mb db : Nat} {m : Mk} {LV : List (Int × Int × Int)} {pl lev : Int} {sv : AV} {l : List Int} {Q : Out → bT → St → Prop} (he : ops = aLb ++ aKZ) (hM : kQ P S0 X mb db m LV) (hS : S0.nx ≤ X.nx) (p0 : aC 0 F = .ptr mb 0) (p1 : aC 1 F = .int .i64 pl) (p2 : aC 2 F = .int .i64 lev) (p3 : aC 3 F = sv) (hs : bS .i64 X sv l) (hl : l.length ≤ 1000) (hsb : ∀ c, aP sv = some c → PB mb db m c ∧ P c) (hv : m.views.length ≤ 100000)
  (hQ : ∀ F' Z va', (∀ j, j < 10 → aC j F' = aC j F) → kQ P S0 Z mb db { m with va := va', views := m.views ++ [(pl, lev, ((m.infos.length : Nat) : Int))] } LV → eI mb db m X { m with va := va', views := m.views ++ [(pl, lev, ((m.infos.length : Nat) : Int))] } Z → Q .normal ⟨F', inr⟩ Z) : lZ fns (.drw ops) ⟨F, inr⟩ X Q := by
 have hlen : ops.length = 20 := by rw [he]; rfl
 have lmX := hM.p.lt
 have f2 := cQ (p := 2) hM.g rfl
 have f9 := cQ (p := 9) hM.g rfl
 have sva := hM.p.vw.self
 have sia := hM.p.inf.self
 refine aB1 65534 (W := fun _ => False) (K := 16) (R := aM1 X F mb m.va sv pl lev ((m.infos.length : Nat) : Int)) he rfl rfl rfl (fun X1 x1 hh1 nn1 => ?_) ?_
 ·have hbl := fun (F : Fr) (h : Ev.T AB) (a : aC 50 F = .int .i64 pl) (b : aC 51 F = .int .i64 lev) (c : aC 52 F = sv) (d : aC 58 F = .int .i64 ((m.infos.length : Nat) : Int)) => aNY (F := F) (h := h) a b c d (aJT hs)
  have hib : dG (.build [.int .i64 0, .int .i64 0, .nilsl, .int .i64 0] [(0, 1, .t 50), (1, 1, .t 51), (2, 1, .t 52), (3, 1, .t 58)]) = false := rfl
  have he1 := fun (F : Fr) (id : Nat) (h : aC 59 F = .agg [.int .i64 pl, .int .i64 lev, sv, .int .i64 ((m.infos.length : Nat) : Int)]) => aLC (t := 227) (z0 := .int .i64 0) (z1 := .int .i64 0) (z2 := .nilsl) (z3 := .int .i64 0) (x := .t 59) (F := F) (id := id) h
  unfold aLb
  simp only [↓sU,sD,rE,↓reduceIte,rA, p0, p1, p2, p3, aS, bF, aT, aB, aN, aA, f2, f9, sva, sia, lmX, not_false_eq_true, hM.p.inf.len, hbl, hib, he1]
  refine ⟨rfl, hh1, by rw [nn1, hlen], fun j hj => ?_, by simp only [↓sU,sD,rE,↓reduceIte,rA], by simp only [↓sU,sD,rE,↓reduceIte,rA], by simp only [↓sU,sD,rE,↓reduceIte,rA]⟩
  have : j = 0 ∨ j = 1 ∨ j = 2 ∨ j = 3 ∨ j = 4 ∨ j = 5 ∨ j = 6 ∨ j = 7 ∨ j = 8 ∨ j = 9 := by omega
  rcases this with rfl | rfl | rfl | rfl | rfl | rfl | rfl | rfl | rfl | rfl <;> simp only [↓sU,sD,rE,↓reduceIte,rA]
 rintro F' S' ps hs' ls ⟨rfl, hZ, nZ, hk, pA, pB, pC⟩ hlast hld
 obtain ⟨U, hU⟩ : ∃ U : St, U = ⟨S'.h.set (X.nx + 15) (some (.cells [.int .i64 pl, .int .i64 lev, sv, .int .i64 ((m.infos.length : Nat) : Int)] false 0)), S'.nx⟩ := ⟨_, rfl⟩
 have nU : U.nx = X.nx + 20 := by rw [hU]; exact nZ
 have sUx : Same X U := ⟨by omega, fun c hc => by rw [hU]; simp only; rw [T.get_set, if_neg (by omega), hZ]⟩
 have gU : U.h.get (X.nx + 15) = some (.cells [.int .i64 pl, .int .i64 lev, sv, .int .i64 ((m.infos.length : Nat) : Int)] false 0) := by rw [hU]; simp only; rw [T.get_set, if_pos rfl]
 have hMU := hM.same sUx
 obtain ⟨v', V, eA, aV, nV, kV, bV⟩ := hMU.p.vw.push (bytes := 48) (x := .sl (X.nx + 15) 0 1 1 false) (a := (pl, lev, ((m.infos.length : Nat) : Int))) (by decide) (by omega) rfl (aIw gU rfl) rfl ⟨sv, l, rfl, hs.same sUx, hl, hsb⟩ (by unfold room; omega) (by unfold room; omega)
 obtain ⟨kP, kM⟩ := hMU.p.pushV nV kV bV aV
 have gmV : V.h.get mb = some (.cells (dI db m) false 0) := (kV mb hMU.p.lt fun e => (hMU.p.d3 mb e).1 rfl).trans hMU.g
 unfold aKZ
 refine kL (v := v') (S1 := V) hlast (fun call => ?_) ?_
 ·rw [cR (show Nat.testBit 65534 15 = true by decide), gH]
  simp only [iG, pB, pC]
  rw [← hU]
  exact eA
 rw [cR (show Nat.testBit 65534 15 = true by decide)]
 simp only [iR, dJ, aS, bF, aT, aB, aA, aN, aM, iG, bX, bJ, pA, rE, ↓reduceIte, rA]
 have gAc : v'.cells = some [v'] := aV.cells
 refine kL (v := .undef) (S1 := ⟨V.h.set mb (some (.cells (dI db { m with va := v', views := m.views ++ [(pl, lev, ((m.infos.length : Nat) : Int))] }) false 0)), V.nx⟩) (show Nat.testBit 524287 16 = true by decide) (fun call => ?_) ?_
 ·rw [dT]
  simp only [iG, bJ, rE, ↓reduceIte, bX, gAc, aF]
  exact stc (cs := dI db m) (p := 2) (S := V) gmV (show 2 < 10 by omega)
 rw [jQ]
 refine ⟨?_, ?_⟩
 ·simp only [List.reverse_cons, List.append_assoc, List.singleton_append, List.cons_append, List.nil_append]
  exact hld _ _
 ·simp only [bX, fX]
  refine hQ _ _ v' (fun j hj => ?_) (kP.put (by simp only; rw [T.get_set, if_pos rfl]) (Nat.le_refl _) fun c _ hne => by simp only; rw [T.get_set, if_neg hne]) (((eI.same sUx).trans kM).trans eI.put)
  rw [bJ, if_neg (by omega), bJ, if_neg (by omega), bJ, if_neg (by omega)]
  exact hk j hj
def aNi (X : St) (F : Fr) (mb db : Nat) (ia lv : AV) (dl : List Int) (pl : Int) (F' : Fr) (Z : St) (ps : List gI) : Prop := ∃ a : Int, 1 ≤ a ∧ a ≤ 3 ∧ ps = [⟨14, X.nx + 14, .cells [.int .i64 pl, .int .i64 a] false 0⟩] ∧ X.nx + 20 ≤ Z.nx ∧ dH db X Z ∧ sO Z db lv dl ∧ (∀ j, j < 10 → aC j F' = aC j F) ∧ aC 64 F' = .ptr mb 0 ∧ aC 69 F' = ia ∧ aC 78 F' = .sl (X.nx + 14) 0 1 1 false
set_option maxHeartbeats 4000000 in
theorem aIF {ops : List AO} {P : Nat → Prop} {S0 X : St} {F : Fr} {inr : Bool} {mb db : Nat} {m : Mk} {LV : List (Int × Int × Int)} {pl : Int} {Q : Out → bT → St → Prop} (H : Has fns) (he : ops = aK1 ++ aLd) (hM : kQ P S0 X mb db m LV) (hS : S0.nx ≤ X.nx) (p0 : aC 0 F = .ptr mb 0) (p1 : aC 1 F = .int .i64 pl) (hv : m.infos.length ≤ 100000)
  (hQ : ∀ F' Z ia' a, (∀ j, j < 10 → aC j F' = aC j F) → 1 ≤ a → a ≤ 3 → kQ P S0 Z mb db { m with ia := ia', infos := m.infos ++ [⟨pl, a⟩] } LV → eI mb db m X { m with ia := ia', infos := m.infos ++ [⟨pl, a⟩] } Z → Q .normal ⟨F', inr⟩ Z) : lZ fns (.drw ops) ⟨F, inr⟩ X Q := by
 have hlen : ops.length = 20 := by rw [he]; rfl
 have lmX := hM.p.lt
 have nmd := hM.p.ne
 have f0 := cQ (p := 0) hM.g rfl
 have f9 := cQ (p := 9) hM.g rfl
 have sia := hM.p.inf.self
 refine aB1 32766 (W := fun c => c = db) (K := 15) (R := aNi X F mb db m.ia m.lv m.dl pl) he rfl rfl rfl (fun X1 x1 hh1 nn1 => ?_) ?_
 ·unfold aK1
  simp only [↓sU,sD,rE,↓reduceIte,rA, p0, p1, aS, bF, aT, aB, aN, aA, f0, f9, sia, lmX, nmd, not_false_eq_true]
  refine jG rfl ?_
  simp only [↓sU,sD,rE,↓reduceIte,rA]
  refine aW (lJ H (hM.same x1).p.dr (n := 3) (by decide) (by decide)) ?_
  rintro _ X2 ⟨x2, d2, y, rfl, y1, y2⟩
  refine ⟨⟨x2.1, fun c hc hne => x2.2 c (Nat.lt_of_lt_of_le hc x1.1) hne⟩, ?_⟩
  have w1 : IntKind.i64.wrap (1 + y) = 1 + y := wrap_i64 (by omega) (by omega)
  have hbl := fun (F : Fr) (h : Ev.T AB) (a : aC 70 F = .int .i64 pl) (b : aC 76 F = .int .i64 (1 + y)) => aNG (F := F) (h := h) a b
  have hib : dG (.build [.int .i64 0, .int .i64 0] [(0, 1, .t 70), (1, 1, .t 76)]) = false := rfl
  have he1 := fun (F : Fr) (id : Nat) (h : aC 77 F = .agg [.int .i64 pl, .int .i64 (1 + y)]) => aLj (t := 48) (z0 := .int .i64 0) (z1 := .int .i64 0) (x := .t 77) (F := F) (id := id) h
  simp only [↓sU,sD,rE,↓reduceIte,rA, w1, hbl, hib, he1]
  refine ⟨1 + y, by omega, by omega, by simp only [↓sU,sD,rE,↓reduceIte,rA], (by have h9 : X1.nx ≤ X2.nx := x2.1; omega), ⟨Nat.le_trans x1.1 x2.1, fun c hc hne => (x2.2 c (Nat.lt_of_lt_of_le hc x1.1) hne).trans (x1.2 c hc)⟩, d2, fun j hj => ?_, by simp only [↓sU,sD,rE,↓reduceIte,rA], by simp only [↓sU,sD,rE,↓reduceIte,rA], by simp only [↓sU,sD,rE,↓reduceIte,rA]⟩
  have : j = 0 ∨ j = 1 ∨ j = 2 ∨ j = 3 ∨ j = 4 ∨ j = 5 ∨ j = 6 ∨ j = 7 ∨ j = 8 ∨ j = 9 := by omega
  rcases this with rfl | rfl | rfl | rfl | rfl | rfl | rfl | rfl | rfl | rfl <;> simp only [↓sU,sD,rE,↓reduceIte,rA]
 rintro F' S' ps hs' ls ⟨a, a1, a2, rfl, nZ, sZ, dZ, hk, pA, pB, pC⟩ hlast hld
 obtain ⟨hMZ, kZ⟩ := hM.drawn sZ dZ
 obtain ⟨U, hU⟩ : ∃ U : St, U = ⟨S'.h.set (X.nx + 14) (some (.cells [.int .i64 pl, .int .i64 a] false 0)), S'.nx⟩ := ⟨_, rfl⟩
 have nU : U.nx = S'.nx := by rw [hU]
 have kU : ∀ c, c ≠ X.nx + 14 → U.h.get c = S'.h.get c := fun c hc => by rw [hU]; simp only; rw [T.get_set, if_neg hc]
 have gU : U.h.get (X.nx + 14) = some (.cells [.int .i64 pl, .int .i64 a] false 0) := by rw [hU]; simp only; rw [T.get_set, if_pos rfl]
 have hout : ∀ c, c < X.nx → c ≠ X.nx + 14 := fun c hc => by omega
 have hMP : kQ (fun c => P c ∧ c < X.nx) S0 S' mb db m LV := (hM.mono fun c hc hp => ⟨hp, hc⟩).drawn sZ dZ |>.1
 have hMU' : kQ (fun c => P c ∧ c < X.nx) S0 U mb db m LV := hMP.local (by omega) fun c hc hor => kU c fun e => by
  rcases hor with h | h
  ·refine h ⟨by omega, fun e' => ?_, fun e' => ?_, fun e' => ?_, fun e' => ?_⟩
   ·have := hM.p.dr.lt; omega
   ·have := (hM.p.nod.blk e').2; omega
   ·have := (hM.p.inf.blk e').2; omega
   ·have := (hM.p.vw.blk e').2; omega
  ·omega
 have hMU : kQ P S0 U mb db m LV := hMU'.mono fun c _ h => h.1
 have kXU : eI mb db m X m U := ⟨by omega, fun c hc hp => ⟨(kU c (hout c hc)).trans (kZ.2 c hc hp).1, hp⟩⟩
 obtain ⟨v', V, eA, aV, nV, kV, bV⟩ := hMU.p.inf.push (bytes := 16) (x := .sl (X.nx + 14) 0 1 1 false) (a := (⟨pl, a⟩ : gR)) (by decide) (by omega) rfl (aIw gU rfl) rfl (show aJL [.int .i64 pl, .int .i64 a] ⟨pl, a⟩ from rfl) (by unfold room; omega) (by unfold room; omega)
 obtain ⟨kP, kM⟩ := hMU.p.pushI nV kV bV aV
 have gmV : V.h.get mb = some (.cells (dI db m) false 0) := (kV mb hMU.p.lt fun e => (hMU.p.d2 mb e).1 rfl).trans hMU.g
 unfold aLd
 refine kL (v := v') (S1 := V) hlast (fun call => ?_) ?_
 ·rw [cR (show Nat.testBit 32766 14 = true by decide), gH]
  simp only [iG, pB, pC]
  rw [← hU]
  exact eA
 rw [cR (show Nat.testBit 32766 14 = true by decide)]
 simp only [iR, dJ, aS, bF, aT, aB, aA, aN, aM, iG, bX, bJ, pA, rE, ↓reduceIte, rA]
 have gAc : v'.cells = some [v'] := aV.cells
 refine kL (v := .undef) (S1 := ⟨V.h.set mb (some (.cells (dI db { m with ia := v', infos := m.infos ++ [⟨pl, a⟩] }) false 0)), V.nx⟩) (show Nat.testBit 524287 15 = true by decide) (fun call => ?_) ?_
 ·rw [dT]
  simp only [iG, bJ, rE, ↓reduceIte, bX, gAc, aF]
  exact stc (cs := dI db m) (p := 9) (S := V) gmV (show 9 < 10 by omega)
 rw [jQ]
 refine ⟨?_, ?_⟩
 ·simp only [List.reverse_cons, List.append_assoc, List.singleton_append, List.cons_append, List.nil_append]
  exact hld _ _
 ·simp only [bX, fX]
  refine hQ _ _ v' a (fun j hj => ?_) a1 a2 (kP.put (by simp only; rw [T.get_set, if_pos rfl]) (Nat.le_refl _) fun c _ hne => by simp only; rw [T.get_set, if_neg hne]) ((kXU.trans kM).trans eI.put)
  rw [bJ, if_neg (by omega), bJ, if_neg (by omega), bJ, if_neg (by omega), bJ, if_neg (by omega)]
  exact hk j hj
end Go.Ev.Gl
namespace Go.Ev.Gl
variable {fns : T cA}
def FnI (mb : Nat) (X : St) (pl lev : Int) (sv : AV) (n : Nat) (k : Nat) (A : bT) (Y : St) : Prop := A.inr = false ∧ Same X Y ∧ ∃ i : Nat, i + k = n ∧ aC 0 A.F = .ptr mb 0 ∧ aC 1 A.F = .int .i64 pl ∧ aC 2 A.F = .int .i64 lev ∧ aC 3 A.F = sv ∧ aC 9 A.F = .int .i64 (i : Int)
def aKw (P : Nat → Prop) (S0 X : St) (mb db : Nat) (m : Mk) (LV : List (Int × Int × Int)) (pl lev : Int) (r : AV) (Z : St) : Prop := ∃ va' ia' a, 1 ≤ a ∧ a ≤ 3 ∧ r = .int .i64 ((m.infos.length : Nat) : Int) ∧ kQ P S0 Z mb db { m with va := va', ia := ia', views := m.views ++ [(pl, lev, ((m.infos.length : Nat) : Int))], infos := m.infos ++ [⟨pl, a⟩] } LV ∧ eI mb db m X { m with va := va', ia := ia', views := m.views ++ [(pl, lev, ((m.infos.length : Nat) : Int))], infos := m.infos ++ [⟨pl, a⟩] } Z
set_option maxHeartbeats 8000000 in
theorem aH5 {P : Nat → Prop} {S0 X : St} {mb db : Nat} {m : Mk} {LV : List (Int × Int × Int)} {pl lev : Int} {sv : AV} {l : List Int} (H : Has fns) (hM : kQ P S0 X mb db m LV) (hS : S0.nx ≤ X.nx) (hs : bS .i64 X sv l) (hl : l.length ≤ 1000) (hsb : ∀ c, aP sv = some c → PB mb db m c ∧ P c) (hv : m.views.length ≤ 100000) (hi : m.infos.length ≤ 100000) :
  iQ fns (.fn 129 [] []) [.ptr mb 0, .int .i64 pl, .int .i64 lev, sv] X fun r Z => (Same X Z ∧ ∃ (i : Nat) (v : Int × Int × Int), m.views[i]? = some v ∧ v.1 = pl ∧ v.2.1 = lev ∧ r = .int .i64 v.2.2) ∨ aKw P S0 X mb db m LV pl lev r Z := by
 refine cW H.f129 (by simp) ?_
 simp only [↓sU,sD,rE,↓reduceIte,rA]
 refine cI ?_
 simp only [↓sU,sD,rE,↓reduceIte,rA]
 refine aE (bP (Q := fun o A' Z => (o = .normal ∧ FnI mb X pl lev sv m.views.length 0 A' Z) ∨ (o = .ret ∧ Same X Z ∧ ∃ (i : Nat) (v : Int × Int × Int), m.views[i]? = some v ∧ v.1 = pl ∧ v.2.1 = lev ∧ aC 8 A'.F = .int .i64 v.2.2)) (aE (aR ?_)) ?_)
 ·simp only [↓sU,sD,rE,↓reduceIte,rA]
  refine bE (cS (FnI mb X pl lev sv m.views.length) ?_ m.views.length _ _ ⟨rfl, Same.refl _, 0, by omega, by simp only [↓sU,sD,rE,↓reduceIte,rA], by simp only [↓sU,sD,rE,↓reduceIte,rA], by simp only [↓sU,sD,rE,↓reduceIte,rA], by simp only [↓sU,sD,rE,↓reduceIte,rA], by simp only [↓sU,sD,rE,↓reduceIte,rA]; try rfl⟩)
  rintro k ⟨F, inr⟩ Y ⟨q0, hY, i, hik, p0, p1, p2, p3, p9⟩
  simp only at q0 p0 p1 p2 p3 p9
  subst q0
  have hMY := hM.same hY
  have f2 := cQ (p := 2) hMY.g rfl
  refine kK ?_
  simp only [↓sU,sD,rE,↓reduceIte,rA, p0, p9, aS, aT, aB, aA, f2, hMY.p.vw.len]
  by_cases hlt : i < m.views.length
  rotate_left
  ·refine aX (by simp only [↓sU,sD,rE,↓reduceIte,rA, decide_eq_false (show ¬ (i : Int) < ((m.views.length : Nat) : Int) by omega)]) (cL ?_)
   simp only [↓sU,sD,rE,↓reduceIte,rA]
   have hk0 : k = 0 := by omega
   subst hk0
   exact .inl ⟨rfl, hY, i, hik, by simp only [↓sU,sD,rE,↓reduceIte,rA, p0], by simp only [↓sU,sD,rE,↓reduceIte,rA, p1], by simp only [↓sU,sD,rE,↓reduceIte,rA, p2], by simp only [↓sU,sD,rE,↓reduceIte,rA, p3], by simp only [↓sU,sD,rE,↓reduceIte,rA, p9]⟩
  refine bB (by simp only [↓sU,sD,rE,↓reduceIte,rA, decide_eq_true (show (i : Int) < ((m.views.length : Nat) : Int) by omega)]) (aO ?_)
  try simp only [↓sU,sD,rE,↓reduceIte,rA]
  have hvi : m.views[i]? = some m.views[i] := List.getElem?_eq_getElem hlt
  have hV : aQ 4 (fun Y e a => VwE Y (fun c => PB mb db m c ∧ P c) e a) Y m.va m.views := hMY.p.vw.is fun e a h => h
  obtain ⟨_, bx, qx, hiax, hbx, _, ⟨sv', l', rfl, hs', hl', _⟩, hldx, _⟩ := aQ.at hV (by decide) hvi
  have w1 : IntKind.i64.wrap ((i : Int) + 1) = ((i + 1 : Nat) : Int) := by rw [wrap_i64 (by omega) (by omega)]; omega
  generalize hvv : m.views[i] = v at *
  refine aE (bE (aE (aR ?_)))
  simp only [↓aJ,aH,rE,↓reduceIte, rA, p0, p9, aS, aT, aB, aA, f2, aL, hiax, hldx]
  refine dD ?_
  intro W1 v1 k1 h1
  refine eH (b := Y.nx) (by simp only [↓aJ,aH,rE,↓reduceIte, rA]) (by simp only [↓aJ,aH,rE,↓reduceIte, rA]; exact bK _) h1 rfl rfl ?_
  intro W v2 k2 h2
  simp only [↓aJ,aH,rE,↓reduceIte, rA]
  have sYW : Same Y W := v2.same v1 (Nat.le_refl _)
  have sXW := hY.trans sYW
  have g0 := cQ (p := 0) h2 rfl
  have g1 := cQ (p := 1) h2 rfl
  have g2 := cQ (p := 2) h2 rfl
  have again : ∀ {F' : Fr} {Z : St}, aC 0 F' = .ptr mb 0 → aC 1 F' = .int .i64 pl → aC 2 F' = .int .i64 lev → aC 3 F' = sv → aC 9 F' = .int .i64 (((i + 1 : Nat)) : Int) → Same X Z → ∃ x < k, FnI mb X pl lev sv m.views.length x ⟨F', false⟩ Z := fun {F' Z} a0 a1 a2 a3 a9 hZ => ⟨k - 1, by omega, rfl, hZ, i + 1, by omega, a0, a1, a2, a3, a9⟩
  refine cI ?_
  by_cases c1 : v.1 = pl
  rotate_left
  ·simp only [↓sU,sD,rE,↓reduceIte,rA, p1, aB, aA, g0, decide_eq_false c1]
   refine aX (by simp only [↓sU,sD,rE,↓reduceIte,rA]) (aO ?_)
   try simp only [↓sU,sD,rE,↓reduceIte,rA]
   refine aR ?_
   simp only [↓sU,sD,rE,↓reduceIte,rA, p9, w1]
   exact again (by simp only [↓sU,sD,rE,↓reduceIte,rA, p0]) (by simp only [↓sU,sD,rE,↓reduceIte,rA, p1]) (by simp only [↓sU,sD,rE,↓reduceIte,rA, p2]) (by simp only [↓sU,sD,rE,↓reduceIte,rA, p3]) (by simp only [↓sU,sD,rE,↓reduceIte,rA]) sXW
  by_cases c2 : v.2.1 = lev
  rotate_left
  ·simp only [↓sU,sD,rE,↓reduceIte,rA, p1, p2, aB, aA, g0, g1, decide_eq_true c1, decide_eq_false c2]
   refine aX (by simp only [↓sU,sD,rE,↓reduceIte,rA]) (aO ?_)
   try simp only [↓sU,sD,rE,↓reduceIte,rA]
   refine aR ?_
   simp only [↓sU,sD,rE,↓reduceIte,rA, p9, w1]
   exact again (by simp only [↓sU,sD,rE,↓reduceIte,rA, p0]) (by simp only [↓sU,sD,rE,↓reduceIte,rA, p1]) (by simp only [↓sU,sD,rE,↓reduceIte,rA, p2]) (by simp only [↓sU,sD,rE,↓reduceIte,rA, p3]) (by simp only [↓sU,sD,rE,↓reduceIte,rA]) sXW
  simp only [↓sU,sD,rE,↓reduceIte,rA, p1, p2, p3, aB, aA, g0, g1, g2, decide_eq_true c1, decide_eq_true c2]
  refine bL ?_
  simp only [↓sU,sD,rE,↓reduceIte,rA]
  refine aW (tD H (hs'.same sYW) (hs.same sXW) (by omega)) ?_
  rintro _ Z ⟨rfl, hZ⟩
  have sXZ := sXW.trans hZ
  have h3 := (hZ.2 _ (show Y.nx < W.nx by omega)).trans h2
  have g3 := cQ (p := 3) h3 rfl
  by_cases c3 : l' = l
  ·rw [decide_eq_true c3]
   try simp only [↓sU,sD,rE,↓reduceIte,rA]
   refine bB (by simp only [↓sU,sD,rE,↓reduceIte,rA]) ?_
   refine cI ?_
   simp only [↓sU,sD,rE,↓reduceIte,rA, aB, aA, g3]
   refine aY ?_
   simp only [↓sU,sD,rE,↓reduceIte,rA]
   exact .inr ⟨sXZ, i, v, by first | exact ⟨hvi, c1, c2⟩ | exact ⟨hvi, c1, c2, rfl⟩⟩
  ·rw [decide_eq_false c3]
   try simp only [↓sU,sD,rE,↓reduceIte,rA]
   refine aX (by simp only [↓sU,sD,rE,↓reduceIte,rA]) (aO ?_)
   try simp only [↓sU,sD,rE,↓reduceIte,rA]
   refine aR ?_
   simp only [↓sU,sD,rE,↓reduceIte,rA, p9, w1]
   exact again (by simp only [↓sU,sD,rE,↓reduceIte,rA, p0]) (by simp only [↓sU,sD,rE,↓reduceIte,rA, p1]) (by simp only [↓sU,sD,rE,↓reduceIte,rA, p2]) (by simp only [↓sU,sD,rE,↓reduceIte,rA, p3]) (by simp only [↓sU,sD,rE,↓reduceIte,rA]) sXZ
 rintro o ⟨F, inr⟩ Z (⟨rfl, q0, hZ, i, hik, p0, p1, p2, p3, _⟩ | ⟨rfl, hZ, i, v, h1, h2, h3, p8⟩)
 rotate_left
 ·simp only at p8
  simp only [↓sU,sD,rE,↓reduceIte,rA, p8]
  exact .inl ⟨hZ, i, v, by first | exact ⟨h1, h2, h3⟩ | exact ⟨h1, h2, h3, rfl⟩⟩
 simp only at q0 p0 p1 p2 p3
 subst q0
 try simp only [↓sU,sD,rE,↓reduceIte,rA]
 have hMZ := hM.same hZ
 refine aE (aJu rfl hMZ (Nat.le_trans hS hZ.1) p0 p1 p2 p3 (hs.same hZ) hl hsb hv ?_)
 intro F1 Z1 va' k1 hM1 b1
 try simp only [↓sU,sD,rE,↓reduceIte,rA]
 have z1 := (eI.same (mb := mb) (db := db) (m := m) hZ).trans b1
 refine aE (aIF H rfl hM1 (Nat.le_trans hS z1.1) ((k1 0 (by omega)).trans p0) ((k1 1 (by omega)).trans p1) hi ?_)
 intro F2 Z2 ia' a k2 a1 a2 hM2 b2
 try simp only [↓sU,sD,rE,↓reduceIte,rA]
 have q0 : aC 0 F2 = .ptr mb 0 := (k2 0 (by omega)).trans ((k1 0 (by omega)).trans p0)
 have f9 := cQ (p := 9) hM2.g rfl
 have hlen := hM2.p.inf.len
 have w1 : IntKind.i64.wrap ((((m.infos ++ [(⟨pl, a⟩ : gR)]).length : Nat) : Int) - 1) = ((m.infos.length : Nat) : Int) := by
  rw [List.length_append, List.length_singleton, wrap_i64 (by omega) (by omega)]
  omega
 refine cI ?_
 simp only [↓sU,sD,rE,↓reduceIte,rA, q0, aS, aT, aB, aA, f9, hlen, w1]
 refine aY ?_
 simp only [↓sU,sD,rE,↓reduceIte,rA]
 exact .inr ⟨va', ia', a, a1, a2, rfl, hM2, z1.trans b2⟩
end Go.Ev.Gl
