import Derived.Test.YtoojnpjgnnpllaaGl5
open Nat renaming reduceEqDiff → rE, reduceAdd → rA
set_option maxHeartbeats 4000000
set_option linter.unusedSimpArgs false
set_option linter.unusedVariables false
namespace Go.Ev.Gl
variable {fns : T cA}
structure cM where
 kind : Int
 player : Int
 info : Int
 next : List Int
 weights : List Int
 pay : List Int
structure gR where
 player : Int
 actions : Int
structure bG where
 players : Int
 nodes : List cM
 infos : List gR
def iS (lo hi : Int) (l : List Int) : Prop := ∃ w ∈ l, w < lo ∨ hi < w
instance anyOutDec (lo hi : Int) (l : List Int) : Decidable (iS lo hi l) := by unfold iS; exact inferInstance
def qG (x : cM) : Prop := x.player ≠ 0 ∨ x.info ≠ 0 ∨ (0 : Int) < ((x.pay.length : Nat) : Int) ∨ ((x.next.length : Nat) : Int) < 1 ∨ (60 : Int) < ((x.next.length : Nat) : Int) ∨ ((x.weights.length : Nat) : Int) ≠ ((x.next.length : Nat) : Int)
def uW (x : cM) : Prop := (0 : Int) < ((x.weights.length : Nat) : Int) ∨ (0 : Int) < ((x.pay.length : Nat) : Int) ∨ ((x.next.length : Nat) : Int) < 1 ∨ (10 : Int) < ((x.next.length : Nat) : Int)
def rJ (ps : Int) (x : cM) : Prop := x.player ≠ 0 ∨ x.info ≠ 0 ∨ (0 : Int) < ((x.next.length : Nat) : Int) ∨ (0 : Int) < ((x.weights.length : Nat) : Int) ∨ ((x.pay.length : Nat) : Int) ≠ ps
instance badCDec (x : cM) : Decidable (qG x) := by unfold qG; exact inferInstance
instance badMDec (x : cM) : Decidable (uW x) := by unfold uW; exact inferInstance
instance badEDec (ps : Int) (x : cM) : Decidable (rJ ps x) := by unfold rJ; exact inferInstance
def iA (ps : Int) (ni : Nat) (x : cM) : Int :=
 if x.kind = 1 then (if qG x then 3 else if iS 1 1000 x.weights then 2 else 0)
 else if x.kind = 2 then (if uW x then 3 else if x.player < 0 ∨ ps - 1 < x.player ∨ x.info < 0 ∨ (ni : Int) - 1 < x.info then 2 else 0)
 else if x.kind = 3 then (if rJ ps x then 3 else if iS (-1000000) 1000000 x.pay then 2 else 0)
 else 3
def cO (S : St) (cs : List AV) (x : cM) : Prop := ∃ a b c, cs = [.int .i64 x.kind, .int .i64 x.player, .int .i64 x.info, a, b, c] ∧ bS .i64 S a x.next ∧ bS .i64 S b x.weights ∧ bS .i64 S c x.pay
theorem cB : aCw cO := fun ⟨a, b, c, h, h1, h2, h3⟩ hs => ⟨a, b, c, h, h1.same hs, h2.same hs, h3.same hs⟩
def dB (_ : St) (cs : List AV) (x : gR) : Prop := cs = [.int .i64 x.player, .int .i64 x.actions]
theorem cU : aCw dB := fun h _ => h
theorem ldc {h : T AB} {b j : Nat} {cs : List AV} {x : AV} {o : Bool} {s : Nat} (hb : h.get b = some (.cells cs o s)) (hj : cs[j]? = some x) : fK (.ptr b (0 + j)) false 1 h = some x := by
 simp only [fK, oO, aM, mX, cP, hb, aF, nP, pI, Nat.zero_add, hj]
theorem qJ {h : T AB} {b n : Nat} {cs : List AV} {o : Bool} {s : Nat} (hb : h.get b = some (.cells cs o s)) (hn : cs.length = n) : fK (.ptr b 0) true n h = some (.agg cs) := by
 subst hn
 simp only [fK, oO, aG, vH, cP, hb, aF, nP]
 unfold cut
 rw [fJ, fT, List.drop_zero, if_pos (Nat.le_refl _), List.take_length]
 rfl
section
variable {h : T AB} {b : Nat} {x0 x1 x2 x3 x4 x5 : AV} {o : Bool} {s : Nat}
theorem fG (hb : h.get b = some (.cells [x0, x1, x2, x3, x4, x5] o s)) : fK (.ptr b (0 + 0)) false 1 h = some x0 := ldc hb rfl
theorem eQ (hb : h.get b = some (.cells [x0, x1, x2, x3, x4, x5] o s)) : fK (.ptr b (0 + 1)) false 1 h = some x1 := ldc hb rfl
theorem fO (hb : h.get b = some (.cells [x0, x1, x2, x3, x4, x5] o s)) : fK (.ptr b (0 + 2)) false 1 h = some x2 := ldc hb rfl
theorem fI (hb : h.get b = some (.cells [x0, x1, x2, x3, x4, x5] o s)) : fK (.ptr b (0 + 3)) false 1 h = some x3 := ldc hb rfl
theorem fM (hb : h.get b = some (.cells [x0, x1, x2, x3, x4, x5] o s)) : fK (.ptr b (0 + 4)) false 1 h = some x4 := ldc hb rfl
theorem gK (hb : h.get b = some (.cells [x0, x1, x2, x3, x4, x5] o s)) : fK (.ptr b (0 + 5)) false 1 h = some x5 := ldc hb rfl
theorem ldN (hb : h.get b = some (.cells [x0, x1, x2, x3, x4, x5] o s)) : fK (.ptr b 0) true 6 h = some (.agg [x0, x1, x2, x3, x4, x5]) := qJ hb rfl
end
section
variable {k : Nat} {α : Type} {E : St → List AV → α → Prop} {S : St} {v : AV} {l : List α}
theorem aQ.at (h : aQ k E S v l) (hk : 0 < k) {i : Nat} {a : α} (hi : l[i]? = some a) : ∃ e b p, eO (.slice k) v i = some (.ptr b p) ∧ b < S.nx ∧ e.length = k ∧ E S e a ∧ fK (.ptr b p) true k S.h = some (.agg e) ∧ ∀ j x, e[j]? = some x → fK (.ptr b (p + j)) false 1 S.h = some x := by
 obtain ⟨e, b, p, h1, h2, h3, h4, cs, h5, h6⟩ := h.get hi
 have hlt := (List.getElem?_eq_some_iff.1 hi).1
 refine ⟨e, b, p, by rw [← h1]; exact h.iaddr hlt, h2, h3, h4, ?_, fun j x hj => ?_⟩
 ·simp only [fK, oO, aG, vH, h5, aF]
  have hcut : cut cs p k = some e := by
   have hle : p + k ≤ cs.length := by
    have := h6 (k - 1) (e[k - 1]'(by omega)) (List.getElem?_eq_getElem (by omega))
    have := (List.getElem?_eq_some_iff.1 this).1
    omega
   unfold cut
   rw [fJ, fT, if_pos (by rw [List.length_drop]; omega)]
   congr 1
   refine List.ext_getElem (by rw [List.length_take, List.length_drop]; omega) fun j j1 j2 => ?_
   have := h6 j e[j] (List.getElem?_eq_getElem j2)
   rw [List.getElem_take, List.getElem_drop]
   exact (List.getElem?_eq_some_iff.1 this).2
  rw [hcut, aF]
 ·simp only [fK, oO, aM, mX, h5, aF, pI]
  exact h6 j x hj
end
end Go.Ev.Gl
namespace Go.Ev.Gl
variable {fns : T cA}
theorem aEv {lo hi : Int} {l : List Int} {i : Nat} (hi' : i < l.length) (h : ¬ iS lo hi (l.take i)) (h2 : ¬ (l.getD i 0 < lo ∨ hi < l.getD i 0)) : ¬ iS lo hi (l.take (i + 1)) := by
 rintro ⟨w, hw, ho⟩
 rw [List.take_add_one, List.getElem?_eq_getElem hi'] at hw
 rcases List.mem_append.1 hw with h1 | h1
 ·exact h ⟨w, h1, ho⟩
 ·simp at h1
  rw [List.getD_eq_getElem?_getD, List.getElem?_eq_getElem hi'] at h2
  subst h1
  exact h2 ho
theorem aGh {lo hi : Int} {l : List Int} {i : Nat} (hi' : i < l.length) (h2 : l.getD i 0 < lo ∨ hi < l.getD i 0) : iS lo hi l := by
 rw [List.getD_eq_getElem?_getD, List.getElem?_eq_getElem hi'] at h2
 exact ⟨l[i], List.getElem_mem hi', h2⟩
end Go.Ev.Gl
namespace Go.Ev.Gl
variable {fns : T cA}
theorem bS.self {k : IntKind} {S : St} {v : AV} {l : List Int} (h : bS k S v l) : cN v v = true := by
 rcases h with ⟨_, h | h⟩ | ⟨b, off, cap, o, cs, rfl, _⟩
 ·subst h; rfl
 ·subst h; rfl
 ·exact mP ..
theorem aQ.self {k : Nat} {α : Type} {E : St → List AV → α → Prop} {S : St} {v : AV} {l : List α} (h : aQ k E S v l) : cN v v = true := by
 rcases h with ⟨_, h | h⟩ | ⟨b, off, cap, o, cs, rfl, _⟩
 ·subst h; rfl
 ·subst h; rfl
 ·exact mP ..
theorem aJk {k : IntKind} {S : St} {b : Nat} {z : Int} (hb : b < S.nx) (h : S.h.get b = some (.cells [.int k z] false 0)) : bS k S (.sl b 0 1 1 false) [z] := by
 refine .inr ⟨b, 0, 1, false, [.int k z], rfl, Nat.le_refl _, hb, by unfold cP; rw [h]; rfl, fun i x hi => ?_⟩
 cases i with
 | zero => simp at hi; subst hi; rfl
 | succ i => simp at hi
theorem aA7 {lo hi z : Int} : iS lo hi [z] ↔ z < lo ∨ hi < z := by
 unfold iS
 simp
theorem aDg {x0 x1 x2 x3 x4 x5 : AV} (h0 : cN x0 x0 = true) (h1 : cN x1 x1 = true) (h2 : cN x2 x2 = true) (h3 : cN x3 x3 = true) (h4 : cN x4 x4 = true) (h5 : cN x5 x5 = true) : cN (.agg [x0, x1, x2, x3, x4, x5]) (.agg [x0, x1, x2, x3, x4, x5]) = true := by
 simp only [cN, mV, h0, h1, h2, h3, h4, h5, aG]
theorem aHV {S : St} {b3 b4 : Nat} {lo hi w : Int} (H : Has fns) (g3 : S.h.get b3 = some (.cells [.int .i64 lo] false 0)) (g4 : S.h.get b4 = some (.cells [.int .i64 hi] false 0)) : iQ fns (.fn 184 [] [.ptr b3 0, .ptr b4 0]) [.int .i64 w] S fun r S' => r = .bool (decide (w < lo ∨ hi < w)) ∧ S' = S := by
 have l3 : fK (.ptr b3 0) false 1 S.h = some (.int .i64 lo) := ldc (j := 0) g3 rfl
 have l4 : fK (.ptr b4 0) false 1 S.h = some (.int .i64 hi) := ldc (j := 0) g4 rfl
 refine cW H.f184 (by simp) ?_
 simp only [↓aJ,aH,rE,↓reduceIte]
 refine cI ?_
 simp only [↓aJ,aH,rE,↓reduceIte]
 refine cI ?_
 by_cases h1 : w < lo
 ·rw [decide_eq_true (show w < lo ∨ hi < w from .inl h1)]
  simp only [↓aJ,aH,rE,↓reduceIte, l3, decide_eq_true h1]
  refine aY ?_
  simp only [↓aJ,aH,rE,↓reduceIte]
 ·by_cases h2 : hi < w
  ·rw [decide_eq_true (show w < lo ∨ hi < w from .inr h2)]
   simp only [↓aJ,aH,rE,↓reduceIte, l3, l4, decide_eq_false h1, decide_eq_true h2]
   refine aY ?_
   simp only [↓aJ,aH,rE,↓reduceIte]
  ·rw [decide_eq_false (show ¬ (w < lo ∨ hi < w) by omega)]
   simp only [↓aJ,aH,rE,↓reduceIte, l3, l4, decide_eq_false h1, decide_eq_false h2]
   refine aY ?_
   simp only [↓aJ,aH,rE,↓reduceIte]
def aND (S : St) (v f : AV) (lo hi : Int) (l : List Int) (k : Nat) (A : bT) (X : St) : Prop := A.inr = false ∧ X = S ∧ ∃ i, i + k = l.length ∧ ¬ iS lo hi (l.take i) ∧ aC 0 A.F = v ∧ aC 1 A.F = f ∧ aC 7 A.F = .int .i64 ((l.length : Nat) : Int) ∧ aC 8 A.F = .int .i64 (i : Int)
theorem aFF {S : St} {b3 b4 : Nat} {lo hi : Int} {v : AV} {l : List Int} (H : Has fns) (g3 : S.h.get b3 = some (.cells [.int .i64 lo] false 0)) (g4 : S.h.get b4 = some (.cells [.int .i64 hi] false 0)) (hl : bS .i64 S v l) (hlen : l.length ≤ 1000000) : iQ fns (.fn 186 [] []) [v, .fn 184 [] [.ptr b3 0, .ptr b4 0]] S fun r S' => (∃ z, r = .int .i64 z ∧ (0 ≤ z ↔ iS lo hi l)) ∧ S' = S := by
 refine cW H.f186 (by simp) ?_
 simp only [↓aJ,aH,rE,↓reduceIte]
 refine cI ?_
 simp only [↓aJ,aH,rE,↓reduceIte]
 refine kK ?_
 simp only [↓aJ,aH,rE,↓reduceIte, hl.len, Int.ofNat_eq_natCast]
 refine bE (cS (aND S v (.fn 184 [] [.ptr b3 0, .ptr b4 0]) lo hi l) ?_ l.length _ _ ⟨rfl, rfl, 0, by omega, (by rintro ⟨w, h, _⟩; simp at h), by simp only [↓aJ,aH,rE,↓reduceIte], by simp only [↓aJ,aH,rE,↓reduceIte], by simp only [↓aJ,aH,rE,↓reduceIte], by simp only [↓aJ,aH,rE,↓reduceIte]⟩)
 rintro k ⟨F, inr⟩ X ⟨q0, hX, j, hjk, ha, p0, p1, p7, p8⟩
 simp only at q0 p0 p1 p7 p8
 subst q0
 rw [hX]
 refine cI ?_
 simp only [↓aJ,aH,rE,↓reduceIte, p7, p8]
 by_cases hj : j < l.length
 ·refine aE (bB (by simp only [↓aJ,aH,rE,↓reduceIte, decide_eq_true (show (j : Int) < ((l.length : Nat) : Int) by omega)]) (aO ?_))
  simp only [↓aJ,aH,rE,↓reduceIte]
  have hia := hl.iaddr hj
  have hld := hl.ld hj
  have htk := aEv (lo := lo) (hi := hi) hj ha
  have hget := aGh (lo := lo) (hi := hi) hj
  generalize l.getD j 0 = w at *
  have w1 : IntKind.i64.wrap ((j : Int) + 1) = ((j + 1 : Nat) : Int) := by rw [wrap_i64 (by omega) (by omega)]; omega
  refine aE (bE (aE (aR ?_)))
  simp only [↓aJ,aH,rE,↓reduceIte, p8]
  refine cI ?_
  simp only [↓aJ,aH,rE,↓reduceIte, p0, p1, aL, hia, hld]
  refine bL ?_
  simp only [↓aJ,aH,rE,↓reduceIte]
  refine aW (aHV H g3 g4) ?_
  rintro _ Y ⟨rfl, hY⟩
  rw [hY]
  try simp only [↓aJ,aH,rE,↓reduceIte]
  by_cases ho : w < lo ∨ hi < w
  ·refine bB (by simp only [↓aJ,aH,rE,↓reduceIte, decide_eq_true ho]) ?_
   refine cI ?_
   simp only [↓aJ,aH,rE,↓reduceIte]
   refine aY ?_
   simp only [↓aJ,aH,rE,↓reduceIte]
   exact ⟨_, rfl, ⟨fun _ => hget ho, fun _ => by omega⟩⟩
  ·refine aX (by simp only [↓aJ,aH,rE,↓reduceIte, decide_eq_false ho]) (aO ?_)
   try simp only [↓aJ,aH,rE,↓reduceIte]
   refine aR ?_
   simp only [↓aJ,aH,rE,↓reduceIte, p8, w1]
   exact ⟨k - 1, by omega, rfl, rfl, j + 1, by omega, htk ho, by simp only [↓aJ,aH,rE,↓reduceIte, p0], by simp only [↓aJ,aH,rE,↓reduceIte, p1], by simp only [↓aJ,aH,rE,↓reduceIte, p7], by simp only [↓aJ,aH,rE,↓reduceIte]⟩
 ·refine aE (aX (by simp only [↓aJ,aH,rE,↓reduceIte, decide_eq_false (show ¬ (j : Int) < ((l.length : Nat) : Int) by omega)]) (cL ?_))
  simp only [↓aJ,aH,rE,↓reduceIte]
  have hno : ¬ iS lo hi l := by rw [List.take_of_length_le (by omega)] at ha; exact ha
  refine cI ?_
  simp only [↓aJ,aH,rE,↓reduceIte]
  refine aY ?_
  simp only [↓aJ,aH,rE,↓reduceIte]
  exact ⟨_, rfl, ⟨fun h => absurd h (by decide), fun h => absurd h hno⟩⟩
theorem aFL {S : St} {b3 b4 : Nat} {lo hi : Int} {v : AV} {l : List Int} (H : Has fns) (g3 : S.h.get b3 = some (.cells [.int .i64 lo] false 0)) (g4 : S.h.get b4 = some (.cells [.int .i64 hi] false 0)) (hl : bS .i64 S v l) (hlen : l.length ≤ 1000000) : iQ fns (.fn 183 [] []) [v, .fn 184 [] [.ptr b3 0, .ptr b4 0]] S fun r S' => r = .bool (decide (iS lo hi l)) ∧ S' = S := by
 refine cW H.f183 (by simp) ?_
 simp only [↓aJ,aH,rE,↓reduceIte]
 refine cI ?_
 simp only [↓aJ,aH,rE,↓reduceIte]
 refine cI ?_
 simp only [↓aJ,aH,rE,↓reduceIte]
 refine bL ?_
 simp only [↓aJ,aH,rE,↓reduceIte]
 refine aW (aFF H g3 g4 hl hlen) ?_
 rintro _ Y ⟨⟨z, rfl, hz⟩, hY⟩
 rw [hY]
 have hd : decide ((0 : Int) ≤ z) = decide (iS lo hi l) := by rw [Bool.eq_iff_iff, decide_eq_true_iff, decide_eq_true_iff]; exact hz
 simp only [↓aJ,aH,rE,↓reduceIte, hd]
 refine aY ?_
 simp only [↓aJ,aH,rE,↓reduceIte]
theorem oP {S : St} {lo hi : Int} {v : AV} {l : List Int} (H : Has fns) (hl : bS .i64 S v l) (hlen : l.length ≤ 1000000) : iQ fns (.fn 180 [] []) [.int .i64 lo, .int .i64 hi, v] S fun r S' => r = .int .i64 (if iS lo hi l then 2 else 0) ∧ Same S S' := by
 refine cW H.f180 (by simp) ?_
 simp only [↓aJ,aH,rE,↓reduceIte]
 refine cI ?_
 refine eY (by simp only [↓aJ,aH,rE,↓reduceIte]; exact cV _ _) ?_
 intro S1 s1 n1 c1
 refine eY (by simp only [↓aJ,aH,rE,↓reduceIte]; exact cV _ _) ?_
 intro S2 s2 n2 c2
 simp only [↓aJ,aH,rE,↓reduceIte]
 have sS := s1.trans s2
 refine kK ?_
 simp only [↓aJ,aH,rE,↓reduceIte, aEX]
 refine bL ?_
 simp only [↓aJ,aH,rE,↓reduceIte]
 refine aW (aFL H (by rw [s2.2 _ (by omega)]; exact c1) c2 (hl.same sS) hlen) ?_
 rintro _ Y ⟨rfl, hY⟩
 rw [hY]
 try simp only [↓aJ,aH,rE,↓reduceIte]
 by_cases ho : iS lo hi l
 ·rw [if_pos ho]
  refine bB (by simp only [↓aJ,aH,rE,↓reduceIte, decide_eq_true ho]) ?_
  refine cI ?_
  simp only [↓aJ,aH,rE,↓reduceIte]
  refine aY ?_
  simp only [↓aJ,aH,rE,↓reduceIte]
  exact sS
 ·rw [if_neg ho]
  refine aX (by simp only [↓aJ,aH,rE,↓reduceIte, decide_eq_false ho]) (aO ?_)
  try simp only [↓aJ,aH,rE,↓reduceIte]
  refine cI ?_
  simp only [↓aJ,aH,rE,↓reduceIte]
  refine aY ?_
  simp only [↓aJ,aH,rE,↓reduceIte]
  exact sS
def qF (S : St) (wb : Nat) (ps : Int) (n i p d l : AV) : Prop := S.h.get wb = some (.cells [.int .i64 ps, n, i, p, d, l] false 0) ∧ wb < S.nx
theorem qF.same {S S' : St} {wb : Nat} {ps : Int} {n i p d l : AV} (h : qF S wb ps n i p d l) (hs : Same S S') : qF S' wb ps n i p d l := ⟨(hs.2 _ h.2).trans h.1, Nat.lt_of_lt_of_le h.2 hs.1⟩
section
variable {S : St} {wb : Nat} {ps : Int} {n i p d l : AV} {ni : Nat} {cs : List AV} {x : cM}
theorem aE6 (H : Has fns) (hx : cO S cs x) : iQ fns (.fn 173 [] []) [.ptr wb 0, .agg cs] S fun r S' => r = .int .i64 (if qG x then 3 else if iS 1 1000 x.weights then 2 else 0) ∧ Same S S' := by
 obtain ⟨a, b, c, rfl, hn, hw, hp⟩ := hx
 refine cW H.f173 (by simp) ?_
 simp only [↓aJ,aH,rE,↓reduceIte]
 refine cI ?_
 refine eY (by simp only [↓aJ,aH,rE,↓reduceIte]; exact bK _) ?_
 intro S2 s2 n2 g3
 simp only [↓aJ,aH,rE,↓reduceIte]
 have hn2 := hn.same s2
 have hw2 := hw.same s2
 have hp2 := hp.same s2
 refine aE (aE (bP (Q := fun o A' X => o = .normal ∧ A'.inr = false ∧ X = S2 ∧ aC 3 A'.F = .ptr S.nx 0 ∧ aC 39 A'.F = .bool (decide (qG x))) (aR ?_) ?_))
 ·by_cases c0 : x.player ≠ 0
  ·rw [decide_eq_true (show qG x from .inl c0)]
   simp only [↓aJ,aH,rE,↓reduceIte, aB, aA, eQ g3, fO g3, fI g3, fM g3, gK g3, hn2.len, hw2.len, hp2.len, Int.ofNat_eq_natCast, decide_eq_true c0]
  by_cases c1 : x.info ≠ 0
  ·rw [decide_eq_true (show qG x from .inr (.inl c1))]
   simp only [↓aJ,aH,rE,↓reduceIte, aB, aA, eQ g3, fO g3, fI g3, fM g3, gK g3, hn2.len, hw2.len, hp2.len, Int.ofNat_eq_natCast, decide_eq_false c0, decide_eq_true c1]
  by_cases c2 : (0 : Int) < ((x.pay.length : Nat) : Int)
  ·rw [decide_eq_true (show qG x from .inr (.inr (.inl c2)))]
   simp only [↓aJ,aH,rE,↓reduceIte, aB, aA, eQ g3, fO g3, fI g3, fM g3, gK g3, hn2.len, hw2.len, hp2.len, Int.ofNat_eq_natCast, decide_eq_false c0, decide_eq_false c1, decide_eq_true c2]
  by_cases c3 : ((x.next.length : Nat) : Int) < 1
  ·rw [decide_eq_true (show qG x from .inr (.inr (.inr (.inl c3))))]
   simp only [↓aJ,aH,rE,↓reduceIte, aB, aA, eQ g3, fO g3, fI g3, fM g3, gK g3, hn2.len, hw2.len, hp2.len, Int.ofNat_eq_natCast, decide_eq_false c0, decide_eq_false c1, decide_eq_false c2, decide_eq_true c3]
  by_cases c4 : (60 : Int) < ((x.next.length : Nat) : Int)
  ·rw [decide_eq_true (show qG x from .inr (.inr (.inr (.inr (.inl c4)))))]
   simp only [↓aJ,aH,rE,↓reduceIte, aB, aA, eQ g3, fO g3, fI g3, fM g3, gK g3, hn2.len, hw2.len, hp2.len, Int.ofNat_eq_natCast, decide_eq_false c0, decide_eq_false c1, decide_eq_false c2, decide_eq_false c3, decide_eq_true c4]
  by_cases c5 : ((x.weights.length : Nat) : Int) ≠ ((x.next.length : Nat) : Int)
  ·rw [decide_eq_true (show qG x from .inr (.inr (.inr (.inr (.inr (c5))))))]
   simp only [↓aJ,aH,rE,↓reduceIte, aB, aA, eQ g3, fO g3, fI g3, fM g3, gK g3, hn2.len, hw2.len, hp2.len, Int.ofNat_eq_natCast, decide_eq_false c0, decide_eq_false c1, decide_eq_false c2, decide_eq_false c3, decide_eq_false c4, decide_eq_true c5]
  rw [decide_eq_false (show ¬ qG x by rintro (h0 | h1 | h2 | h3 | h4 | h5) <;> first | exact c0 h0 | exact c1 h1 | exact c2 h2 | exact c3 h3 | exact c4 h4 | exact c5 h5)]
  simp only [↓aJ,aH,rE,↓reduceIte, aB, aA, eQ g3, fO g3, fI g3, fM g3, gK g3, hn2.len, hw2.len, hp2.len, Int.ofNat_eq_natCast, decide_eq_false c0, decide_eq_false c1, decide_eq_false c2, decide_eq_false c3, decide_eq_false c4, decide_eq_false c5]
 rintro o ⟨F, inr⟩ X ⟨rfl, q0, hX, p3, pb⟩
 simp only at q0 p3 pb
 subst q0
 rw [hX]
 have sX := s2
 try simp only [↓aJ,aH,rE,↓reduceIte]
 by_cases bad : qG x
 ·rw [if_pos bad]
  refine bB (by simp only [↓aJ,aH,rE,↓reduceIte, pb, decide_eq_true bad]) ?_
  refine cI ?_
  simp only [↓aJ,aH,rE,↓reduceIte]
  refine aY ?_
  simp only [↓aJ,aH,rE,↓reduceIte]
  exact sX
 rw [if_neg bad]
 refine aX (by simp only [↓aJ,aH,rE,↓reduceIte, pb, decide_eq_false bad]) (aO ?_)
 try simp only [↓aJ,aH,rE,↓reduceIte]
 have hlen : x.weights.length ≤ 60 := by unfold qG at bad; omega
 refine cI ?_
 simp only [↓aJ,aH,rE,↓reduceIte, p3, aB, aA, fM g3]
 refine bL ?_
 simp only [↓aJ,aH,rE,↓reduceIte]
 refine aW (oP H hw2 (by omega)) ?_
 rintro _ Y ⟨rfl, hY⟩
 try simp only [↓aJ,aH,rE,↓reduceIte]
 refine aY ?_
 simp only [↓aJ,aH,rE,↓reduceIte]
 exact s2.trans hY
theorem aHC (H : Has fns) (hx : cO S cs x) (hW : qF S wb ps n i p d l) (hps : 1 ≤ ps ∧ ps ≤ 4) (hi : mB i = some (.int .i64 ((ni : Nat) : Int))) (hni : ni ≤ 1000) (hsi : cN i i = true) : iQ fns (.fn 174 [] []) [.ptr wb 0, .agg cs] S fun r S' => r = .int .i64 (if uW x then 3 else if x.player < 0 ∨ ps - 1 < x.player ∨ x.info < 0 ∨ (ni : Int) - 1 < x.info then 2 else 0) ∧ Same S S' := by
 obtain ⟨a, b, c, rfl, hn, hw, hp⟩ := hx
 refine cW H.f174 (by simp) ?_
 simp only [↓aJ,aH,rE,↓reduceIte]
 refine cI ?_
 refine eY (by simp only [↓aJ,aH,rE,↓reduceIte]; exact bK _) ?_
 intro S2 s2 n2 g3
 simp only [↓aJ,aH,rE,↓reduceIte]
 have hn2 := hn.same s2
 have hw2 := hw.same s2
 have hp2 := hp.same s2
 have hW2 := hW.same s2
 refine aE (aE (bP (Q := fun o A' X => o = .normal ∧ A'.inr = false ∧ X = S2 ∧ aC 0 A'.F = .ptr wb 0 ∧ aC 3 A'.F = .ptr S.nx 0 ∧ aC 27 A'.F = .bool (decide (uW x))) (aR ?_) ?_))
 ·by_cases c0 : (0 : Int) < ((x.weights.length : Nat) : Int)
  ·rw [decide_eq_true (show uW x from .inl c0)]
   simp only [↓aJ,aH,rE,↓reduceIte, aB, aA, eQ g3, fO g3, fI g3, fM g3, gK g3, hn2.len, hw2.len, hp2.len, Int.ofNat_eq_natCast, decide_eq_true c0]
  by_cases c1 : (0 : Int) < ((x.pay.length : Nat) : Int)
  ·rw [decide_eq_true (show uW x from .inr (.inl c1))]
   simp only [↓aJ,aH,rE,↓reduceIte, aB, aA, eQ g3, fO g3, fI g3, fM g3, gK g3, hn2.len, hw2.len, hp2.len, Int.ofNat_eq_natCast, decide_eq_false c0, decide_eq_true c1]
  by_cases c2 : ((x.next.length : Nat) : Int) < 1
  ·rw [decide_eq_true (show uW x from .inr (.inr (.inl c2)))]
   simp only [↓aJ,aH,rE,↓reduceIte, aB, aA, eQ g3, fO g3, fI g3, fM g3, gK g3, hn2.len, hw2.len, hp2.len, Int.ofNat_eq_natCast, decide_eq_false c0, decide_eq_false c1, decide_eq_true c2]
  by_cases c3 : (10 : Int) < ((x.next.length : Nat) : Int)
  ·rw [decide_eq_true (show uW x from .inr (.inr (.inr (c3))))]
   simp only [↓aJ,aH,rE,↓reduceIte, aB, aA, eQ g3, fO g3, fI g3, fM g3, gK g3, hn2.len, hw2.len, hp2.len, Int.ofNat_eq_natCast, decide_eq_false c0, decide_eq_false c1, decide_eq_false c2, decide_eq_true c3]
  rw [decide_eq_false (show ¬ uW x by rintro (h0 | h1 | h2 | h3) <;> first | exact c0 h0 | exact c1 h1 | exact c2 h2 | exact c3 h3)]
  simp only [↓aJ,aH,rE,↓reduceIte, aB, aA, eQ g3, fO g3, fI g3, fM g3, gK g3, hn2.len, hw2.len, hp2.len, Int.ofNat_eq_natCast, decide_eq_false c0, decide_eq_false c1, decide_eq_false c2, decide_eq_false c3]
 rintro o ⟨F, inr⟩ X ⟨rfl, q0, hX, p0, p3, pb⟩
 simp only at q0 p0 p3 pb
 subst q0
 rw [hX]
 have sX := s2
 try simp only [↓aJ,aH,rE,↓reduceIte]
 by_cases bad : uW x
 ·rw [if_pos bad]
  refine bB (by simp only [↓aJ,aH,rE,↓reduceIte, pb, decide_eq_true bad]) ?_
  refine cI ?_
  simp only [↓aJ,aH,rE,↓reduceIte]
  refine aY ?_
  simp only [↓aJ,aH,rE,↓reduceIte]
  exact sX
 rw [if_neg bad]
 refine aX (by simp only [↓aJ,aH,rE,↓reduceIte, pb, decide_eq_false bad]) (aO ?_)
 try simp only [↓aJ,aH,rE,↓reduceIte]
 have w1 : IntKind.i64.wrap (ps - 1) = ps - 1 := wrap_i64 (by omega) (by omega)
 have w2 : IntKind.i64.wrap ((ni : Int) - 1) = (ni : Int) - 1 := wrap_i64 (by omega) (by omega)
 have lt3 : S.nx < S2.nx := by omega
 refine aE (aE (oC (fun _ => False) ?_))
 intro S3 s3 h3 n3
 simp only [List.length_cons, List.length_nil, rA] at n3
 simp only [↓sU,sD,rE,↓reduceIte,rA, p0, p3, aS, bF, aT, aB, aN, aA, fG hW2.1, eQ g3, w1, hW2.2, lt3, not_false_eq_true]
 rw [nE (k := .i64) (n := x.player) (by simp only [↓sU,sD,rE,↓reduceIte,rA])]
 simp only [↓sU,sD,rE,↓reduceIte,rA]
 refine aBV (by decide) rfl ?_
 intro S4 s4 n4 c4
 simp only [↓sU,sD,rE,↓reduceIte,rA]
 have s34 : Same S2 S4 := s4.same s3 (by omega)
 refine aW (oP H (aJk (by omega) c4) (by simp)) ?_
 rintro _ Y ⟨rfl, hY⟩
 refine ⟨hY, ?_⟩
 simp only [↓sU,sD,rE,↓reduceIte,rA, aA7]
 have sY := s2.trans (s34.trans hY)
 refine cI ?_
 simp only [↓sU,sD,rE,↓reduceIte,rA]
 by_cases h1 : x.player < 0 ∨ ps - 1 < x.player
 ·rw [if_pos (show x.player < 0 ∨ ps - 1 < x.player ∨ x.info < 0 ∨ (ni : Int) - 1 < x.info by omega)]
  refine bB (by simp only [↓sU,sD,rE,↓reduceIte,rA, if_pos h1]; rfl) ?_
  refine cI ?_
  simp only [↓sU,sD,rE,↓reduceIte,rA, if_pos h1]
  refine aY ?_
  simp only [↓sU,sD,rE,↓reduceIte,rA]
  exact sY
 refine aX (by simp only [↓sU,sD,rE,↓reduceIte,rA, if_neg h1]; rfl) (aO ?_)
 try simp only [↓sU,sD,rE,↓reduceIte,rA]
 have hWY := hW.same sY
 have g3Y : Y.h.get S.nx = some (.cells [.int .i64 x.kind, .int .i64 x.player, .int .i64 x.info, a, b, c] false 0) := by rw [(s34.trans hY).2 _ lt3]; exact g3
 have lt3Y : S.nx < Y.nx := Nat.lt_of_lt_of_le lt3 (s34.trans hY).1
 refine aE (oC (fun _ => False) ?_)
 intro S5 s5 h5 n5
 simp only [List.length_cons, List.length_nil, rA] at n5
 simp only [↓sU,sD,rE,↓reduceIte,rA, p0, p3, aS, bF, aT, aB, aN, aA, fO hWY.1, hi, hsi, fO g3Y, w2, hWY.2, lt3Y, not_false_eq_true]
 rw [nE (k := .i64) (n := x.info) (by simp only [↓sU,sD,rE,↓reduceIte,rA])]
 simp only [↓sU,sD,rE,↓reduceIte,rA]
 refine aBV (by decide) rfl ?_
 intro S6 s6 n6 c6
 simp only [↓sU,sD,rE,↓reduceIte,rA]
 have s56 : Same Y S6 := s6.same s5 (by omega)
 refine aW (oP H (aJk (by omega) c6) (by simp)) ?_
 rintro _ Z ⟨rfl, hZ⟩
 refine ⟨hZ, ?_⟩
 simp only [↓sU,sD,rE,↓reduceIte,rA, aA7]
 refine aY ?_
 simp only [↓sU,sD,rE,↓reduceIte,rA]
 refine ⟨?_, sY.trans (s56.trans hZ)⟩
 by_cases h2 : x.info < 0 ∨ (ni : Int) - 1 < x.info
 ·rw [if_pos h2, if_pos (by omega)]
 ·rw [if_neg h2, if_neg (by omega)]
theorem aJm (H : Has fns) (hx : cO S cs x) (hW : qF S wb ps n i p d l) (hps : 1 ≤ ps ∧ ps ≤ 4) : iQ fns (.fn 175 [] []) [.ptr wb 0, .agg cs] S fun r S' => r = .int .i64 (if rJ ps x then 3 else if iS (-1000000) 1000000 x.pay then 2 else 0) ∧ Same S S' := by
 obtain ⟨a, b, c, rfl, hn, hw, hp⟩ := hx
 refine cW H.f175 (by simp) ?_
 simp only [↓aJ,aH,rE,↓reduceIte]
 refine cI ?_
 refine eY (by simp only [↓aJ,aH,rE,↓reduceIte]; exact bK _) ?_
 intro S2 s2 n2 g3
 simp only [↓aJ,aH,rE,↓reduceIte]
 have hn2 := hn.same s2
 have hw2 := hw.same s2
 have hp2 := hp.same s2
 have hW2 := hW.same s2
 have sn := bS.self hn2
 have sw := bS.self hw2
 have sp := bS.self hp2
 refine aE (aE (bP (Q := fun o A' X => o = .normal ∧ A'.inr = false ∧ Same S2 X ∧ aC 3 A'.F = .ptr S.nx 0 ∧ aC 35 A'.F = .bool (decide (rJ ps x))) (mO ?_) ?_))
 ·have sX := Same.nx S2 31
  by_cases c0 : x.player ≠ 0
  ·rw [decide_eq_true (show rJ ps x from .inl c0)]
   simp only [↓aJ,aH,rE,↓reduceIte, aB, aA, eQ g3, fO g3, fI g3, fM g3, gK g3, hn2.len, hw2.len, hp2.len, Int.ofNat_eq_natCast, aS, bF, aT, aN, fU, fG hW2.1, sn, sw, sp, decide_eq_true c0]
   exact Same.nx S2 _
  by_cases c1 : x.info ≠ 0
  ·rw [decide_eq_true (show rJ ps x from .inr (.inl c1))]
   simp only [↓aJ,aH,rE,↓reduceIte, aB, aA, eQ g3, fO g3, fI g3, fM g3, gK g3, hn2.len, hw2.len, hp2.len, Int.ofNat_eq_natCast, aS, bF, aT, aN, fU, fG hW2.1, sn, sw, sp, decide_eq_false c0, decide_eq_true c1]
   exact Same.nx S2 _
  by_cases c2 : (0 : Int) < ((x.next.length : Nat) : Int)
  ·rw [decide_eq_true (show rJ ps x from .inr (.inr (.inl c2)))]
   simp only [↓aJ,aH,rE,↓reduceIte, aB, aA, eQ g3, fO g3, fI g3, fM g3, gK g3, hn2.len, hw2.len, hp2.len, Int.ofNat_eq_natCast, aS, bF, aT, aN, fU, fG hW2.1, sn, sw, sp, decide_eq_false c0, decide_eq_false c1, decide_eq_true c2]
   exact Same.nx S2 _
  by_cases c3 : (0 : Int) < ((x.weights.length : Nat) : Int)
  ·rw [decide_eq_true (show rJ ps x from .inr (.inr (.inr (.inl c3))))]
   simp only [↓aJ,aH,rE,↓reduceIte, aB, aA, eQ g3, fO g3, fI g3, fM g3, gK g3, hn2.len, hw2.len, hp2.len, Int.ofNat_eq_natCast, aS, bF, aT, aN, fU, fG hW2.1, sn, sw, sp, decide_eq_false c0, decide_eq_false c1, decide_eq_false c2, decide_eq_true c3]
   exact Same.nx S2 _
  by_cases c4 : ((x.pay.length : Nat) : Int) ≠ ps
  ·rw [decide_eq_true (show rJ ps x from .inr (.inr (.inr (.inr (c4)))))]
   simp only [↓aJ,aH,rE,↓reduceIte, aB, aA, eQ g3, fO g3, fI g3, fM g3, gK g3, hn2.len, hw2.len, hp2.len, Int.ofNat_eq_natCast, aS, bF, aT, aN, fU, fG hW2.1, sn, sw, sp, decide_eq_false c0, decide_eq_false c1, decide_eq_false c2, decide_eq_false c3, decide_eq_true c4]
   exact Same.nx S2 _
  rw [decide_eq_false (show ¬ rJ ps x by rintro (h0 | h1 | h2 | h3 | h4) <;> first | exact c0 h0 | exact c1 h1 | exact c2 h2 | exact c3 h3 | exact c4 h4)]
  simp only [↓aJ,aH,rE,↓reduceIte, aB, aA, eQ g3, fO g3, fI g3, fM g3, gK g3, hn2.len, hw2.len, hp2.len, Int.ofNat_eq_natCast, aS, bF, aT, aN, fU, fG hW2.1, sn, sw, sp, decide_eq_false c0, decide_eq_false c1, decide_eq_false c2, decide_eq_false c3, decide_eq_false c4]
  exact Same.nx S2 _
 rintro o ⟨F, inr⟩ X ⟨rfl, q0, hX, p3, pb⟩
 simp only at q0 p3 pb
 subst q0
 have sX := s2.trans hX
 have g3X : X.h.get S.nx = some (.cells [.int .i64 x.kind, .int .i64 x.player, .int .i64 x.info, a, b, c] false 0) := by rw [hX.2 _ (by omega)]; exact g3
 try simp only [↓aJ,aH,rE,↓reduceIte]
 by_cases bad : rJ ps x
 ·rw [if_pos bad]
  refine bB (by simp only [↓aJ,aH,rE,↓reduceIte, pb, decide_eq_true bad]) ?_
  refine cI ?_
  simp only [↓aJ,aH,rE,↓reduceIte]
  refine aY ?_
  simp only [↓aJ,aH,rE,↓reduceIte]
  exact sX
 rw [if_neg bad]
 refine aX (by simp only [↓aJ,aH,rE,↓reduceIte, pb, decide_eq_false bad]) (aO ?_)
 try simp only [↓aJ,aH,rE,↓reduceIte]
 have hlen : x.pay.length ≤ 60 := by unfold rJ at bad; omega
 have hneg : Int.negSucc 999999 = -1000000 := rfl
 refine cI ?_
 simp only [↓aJ,aH,rE,↓reduceIte, p3, aB, aA, gK g3X]
 refine bL ?_
 simp only [↓aJ,aH,rE,↓reduceIte, hneg]
 refine aW (oP H (hp2.same hX) (by omega)) ?_
 rintro _ Y ⟨rfl, hY⟩
 try simp only [↓aJ,aH,rE,↓reduceIte]
 refine aY ?_
 simp only [↓aJ,aH,rE,↓reduceIte]
 exact sX.trans hY
end
end Go.Ev.Gl
namespace Go.Ev.Gl
variable {fns : T cA}
section
variable {S : St} {wb : Nat} {ps : Int} {n i p d l : AV} {ni : Nat} {cs : List AV} {x : cM}
theorem aHj (H : Has fns) (hx : cO S cs x) (hW : qF S wb ps n i p d l) (hps : 1 ≤ ps ∧ ps ≤ 4) (hi : mB i = some (.int .i64 ((ni : Nat) : Int))) (hni : ni ≤ 1000) (hsi : cN i i = true) : iQ fns (.fn 162 [] []) [.ptr wb 0, .agg cs] S fun r S' => r = .int .i64 (iA ps ni x) ∧ Same S S' := by
 obtain ⟨a, b, c, rfl, hn, hw, hp⟩ := id hx
 refine cW H.f162 (by simp) ?_
 simp only [↓aJ,aH,rE,↓reduceIte]
 refine cI ?_
 refine eY (by simp only [↓aJ,aH,rE,↓reduceIte]; exact bK _) ?_
 intro S1 s1 n1 g3
 simp only [↓aJ,aH,rE,↓reduceIte]
 have hbd : ∀ (F : Fr) (h : T AB), gP (.build [.nilfn, .nilfn, .nilfn, .nilfn] [(1, 1, .c (.fn 173 [] [])), (2, 1, .c (.fn 174 [] [])), (3, 1, .c (.fn 175 [] []))]) F h = some (.agg [.nilfn, .fn 173 [] [], .fn 174 [] [], .fn 175 [] []]) := fun _ _ => rfl
 refine cI ?_
 simp only [↓aJ,aH,rE,↓reduceIte, hbd]
 refine dD ?_
 intro S2 s2 n2 c2
 refine eH (b := S1.nx) (by simp only [↓aJ,aH,rE,↓reduceIte]) (by simp only [↓aJ,aH,rE,↓reduceIte]; exact bK _) c2 rfl rfl ?_
 intro S3 s3 n3 c3
 simp only [↓aJ,aH,rE,↓reduceIte]
 have s13 : Same S1 S3 := s3.same s2 (Nat.le_refl _)
 have sS := s1.trans s13
 have g3 : S3.h.get S.nx = some (.cells [.int .i64 x.kind, .int .i64 x.player, .int .i64 x.info, a, b, c] false 0) := by rw [s13.2 _ (by omega)]; exact g3
 have lt3 : S.nx < S3.nx := by omega
 have lt5 : S1.nx < S3.nx := by omega
 have hx3 : cO S3 [.int .i64 x.kind, .int .i64 x.player, .int .i64 x.info, a, b, c] x := cB hx sS
 have hW3 := hW.same sS
 have sl := aDg (eU .i64 x.kind) (eU .i64 x.player) (eU .i64 x.info) (bS.self hn) (bS.self hw) (bS.self hp)
 unfold iA
 refine aE (aE (bP (Q := fun o A' X => o = .normal ∧ A'.inr = false ∧ X = S3 ∧ aC 0 A'.F = .ptr wb 0 ∧ aC 3 A'.F = .ptr S.nx 0 ∧ aC 5 A'.F = .ptr S1.nx 0 ∧ aC 14 A'.F = .bool (decide (x.kind < 1 ∨ 3 < x.kind))) (aR ?_) ?_))
 ·by_cases h1 : x.kind < 1
  ·rw [decide_eq_true (show x.kind < 1 ∨ 3 < x.kind from .inl h1)]
   simp only [↓aJ,aH,rE,↓reduceIte, aB, aA, fG g3, decide_eq_true h1]
  ·by_cases h2 : 3 < x.kind
   ·rw [decide_eq_true (show x.kind < 1 ∨ 3 < x.kind from .inr h2)]
    simp only [↓aJ,aH,rE,↓reduceIte, aB, aA, fG g3, decide_eq_false h1, decide_eq_true h2]
   ·rw [decide_eq_false (show ¬ (x.kind < 1 ∨ 3 < x.kind) by omega)]
    simp only [↓aJ,aH,rE,↓reduceIte, aB, aA, fG g3, decide_eq_false h1, decide_eq_false h2]
 rintro o ⟨F, inr⟩ X ⟨rfl, q0, hX, p0, p3, p5, pb⟩
 simp only at q0 p0 p3 p5 pb
 subst q0
 rw [hX]
 try simp only [↓aJ,aH,rE,↓reduceIte]
 by_cases bad : x.kind < 1 ∨ 3 < x.kind
 ·rw [if_neg (by omega), if_neg (by omega), if_neg (by omega)]
  refine bB (by simp only [↓aJ,aH,rE,↓reduceIte, pb, decide_eq_true bad]) ?_
  refine cI ?_
  simp only [↓aJ,aH,rE,↓reduceIte]
  refine aY ?_
  simp only [↓aJ,aH,rE,↓reduceIte]
  exact sS
 refine aX (by simp only [↓aJ,aH,rE,↓reduceIte, pb, decide_eq_false bad]) (aO ?_)
 try simp only [↓aJ,aH,rE,↓reduceIte]
 have hld : ∀ j y, [AV.nilfn, .fn 173 [] [], .fn 174 [] [], .fn 175 [] []][j]? = some y → fK (.ptr S1.nx j) false 1 S3.h = some y := fun j y hy => by have := ldc (j := j) c3 hy; rw [Nat.zero_add] at this; exact this
 have n1' : eF (.int .i64 1) = some 1 := rfl
 have n2' : eF (.int .i64 2) = some 2 := rfl
 have n3' : eF (.int .i64 3) = some 3 := rfl
 have i1 : eO (.arr 4 1) (.ptr S1.nx 0) 1 = some (.ptr S1.nx 1) := rfl
 have i2 : eO (.arr 4 1) (.ptr S1.nx 0) 2 = some (.ptr S1.nx 2) := rfl
 have i3 : eO (.arr 4 1) (.ptr S1.nx 0) 3 = some (.ptr S1.nx 3) := rfl
 have l1 := hld 1 _ rfl
 have l2 := hld 2 _ rfl
 have l3 := hld 3 _ rfl
 have f1 : cN (.fn 173 [] []) (.fn 173 [] []) = true := rfl
 have f2 : cN (.fn 174 [] []) (.fn 174 [] []) = true := rfl
 have f3 : cN (.fn 175 [] []) (.fn 175 [] []) = true := rfl
 have g3' := ldN g3
 refine aE (mT (fun _ => False) ?_)
 intro S4 s4
 by_cases k1 : x.kind = 1
 ·rw [if_pos k1]
  rw [k1] at g3 g3' sl hx3
  simp only [↓sU,sD,rE,↓reduceIte,rA, p0, p3, p5, aB, aN, aA, fG g3, n1', i1, l1, f1, g3', sl, lt3, lt5, not_false_eq_true]
  refine gE rfl ?_
  simp only [↓sU,sD,rE,↓reduceIte,rA]
  refine aW (aE6 H (by have := cB hx (sS.trans s4); rw [k1] at this; exact this)) ?_
  rintro _ Y ⟨rfl, hY⟩
  refine ⟨hY, ?_⟩
  try simp only [↓sU,sD,rE,↓reduceIte,rA]
  refine aY ?_
  simp only [↓sU,sD,rE,↓reduceIte,rA]
  exact sS.trans (s4.trans hY)
 by_cases k2 : x.kind = 2
 ·rw [if_neg k1, if_pos k2]
  rw [k2] at g3 g3' sl
  simp only [↓sU,sD,rE,↓reduceIte,rA, p0, p3, p5, aB, aN, aA, fG g3, n2', i2, l2, f2, g3', sl, lt3, lt5, not_false_eq_true]
  refine gE rfl ?_
  simp only [↓sU,sD,rE,↓reduceIte,rA]
  refine aW (aHC H (by have := cB hx (sS.trans s4); rw [k2] at this; exact this) (hW3.same s4) hps hi hni hsi) ?_
  rintro _ Y ⟨rfl, hY⟩
  refine ⟨hY, ?_⟩
  try simp only [↓sU,sD,rE,↓reduceIte,rA]
  refine aY ?_
  simp only [↓sU,sD,rE,↓reduceIte,rA]
  exact sS.trans (s4.trans hY)
 have k3 : x.kind = 3 := by omega
 rw [if_neg k1, if_neg k2, if_pos k3]
 rw [k3] at g3 g3' sl
 simp only [↓sU,sD,rE,↓reduceIte,rA, p0, p3, p5, aB, aN, aA, fG g3, n3', i3, l3, f3, g3', sl, lt3, lt5, not_false_eq_true]
 refine gE rfl ?_
 simp only [↓sU,sD,rE,↓reduceIte,rA]
 refine aW (aJm H (by have := cB hx (sS.trans s4); rw [k3] at this; exact this) (hW3.same s4) hps) ?_
 rintro _ Y ⟨rfl, hY⟩
 refine ⟨hY, ?_⟩
 try simp only [↓sU,sD,rE,↓reduceIte,rA]
 refine aY ?_
 simp only [↓sU,sD,rE,↓reduceIte,rA]
 exact sS.trans (s4.trans hY)
end
end Go.Ev.Gl
namespace Go.Ev.Gl
variable {fns : T cA}
abbrev cK := Int × Int × Int
def fF (rec : Nat → Option (List cK)) : List Int → Nat → Option (List cK)
 | [], _ => some []
 | c :: l, r => if c = (r : Int) then (rec r).bind fun L1 => (fF rec l (r + L1.length)).map (L1 ++ ·) else none
def eR (N : Nat) (nx : Nat → List Int) : Nat → Nat → Int → Int → Option (List cK)
 | 0, _, _, _ => none
 | f + 1, at_, p, d => if at_ < N then (fF (fun r => eR N nx f r at_ (d + 1)) (nx at_) (at_ + 1)).map fun L => (p, d, ((at_ + L.length : Nat) : Int)) :: L else none
def aAR (m : Int) (L : List cK) : Int := L.foldl (fun m t => mx m t.2.1) m
theorem aCS (m : Int) (t : cK) (L : List cK) : aAR m (t :: L) = aAR (mx m t.2.1) L := rfl
def dP (g : bG) (i : Nat) : List Int := ((g.nodes[i]?).map (·.next)).getD []
theorem vY {g : bG} {i : Nat} {x : cM} (h : g.nodes[i]? = some x) : dP g i = x.next := by unfold dP; rw [h]; rfl
theorem aC5 {rec : Nat → Option (List cK)} {N : Nat} (hr : ∀ r L, rec r = some L → r + L.length ≤ N ∧ 0 < L.length) : ∀ {l : List Int} {r : Nat} {L : List cK}, r ≤ N → fF rec l r = some L → r + L.length ≤ N
 | [], r, L, h, hk => by simp only [fF, Option.some.injEq] at hk; subst hk; simpa using h
 | c :: l, r, L, h, hk => by
  simp only [fF] at hk
  split at hk
  ·obtain ⟨L1, h1, h2⟩ := Option.bind_eq_some_iff.1 hk
   obtain ⟨L2, h3, rfl⟩ := Option.map_eq_some_iff.1 h2
   have := aC5 hr (hr r L1 h1).1 h3
   rw [List.length_append]; omega
  ·cases hk
theorem zI {N : Nat} {nx : Nat → List Int} : ∀ {f at_ : Nat} {p d : Int} {L : List cK}, eR N nx f at_ p d = some L → at_ + L.length ≤ N ∧ 0 < L.length
 | 0, at_, p, d, L, h => by cases h
 | f + 1, at_, p, d, L, h => by
  simp only [eR] at h
  split at h
  ·rename_i hlt
   obtain ⟨L', h1, rfl⟩ := Option.map_eq_some_iff.1 h
   have := aC5 (N := N) (fun r L hr => zI hr) (show at_ + 1 ≤ N by omega) h1
   rw [List.length_cons]; omega
  ·cases h
theorem aQ.tail {k : Nat} {α : Type} {E : St → List AV → α → Prop} {S : St} {v : AV} {a : α} {l : List α} (h : aQ k E S v (a :: l)) : ∃ v', (∀ (F : Fr) (x : cH), eF (x.val F) = some 1 → pK (.slice k) v (some x) none none F = some v') ∧ aQ k E S v' l := by
 rcases h with ⟨h0, _⟩ | ⟨b, off, cap, o, cs, rfl, hc, hb, hcs, hel⟩
 ·cases h0
 ·rw [List.length_cons] at hc
  have e1 : Nat.ble cap cap = true := Nat.ble_eq_true_of_le (Nat.le_refl _)
  have e2 : Nat.ble (l.length + 1) cap = true := Nat.ble_eq_true_of_le hc
  have e3 : Nat.ble 1 (l.length + 1) = true := Nat.ble_eq_true_of_le (by omega)
  by_cases h1 : cap = 1
  ·have hl : l = [] := List.length_eq_zero_iff.1 (by omega)
   subst hl; subst h1
   have e4 : Nat.beq 1 1 = true := rfl
   refine ⟨bO o .emp (.sl b off 0 0 false), fun F x hx => ?_, ?_⟩
   ·simp only [pK, aEK, jE, iL, aF, hx, List.length_cons, List.length_nil]
    cases o <;> rfl
   ·cases o with
    | true => exact .inl ⟨rfl, .inr rfl⟩
    | false => exact .inr ⟨b, off, 0, false, cs, rfl, Nat.le_refl _, hb, hcs, fun i a hi => by simp at hi⟩
  ·have e4 : Nat.beq cap 1 = false := by rw [Bool.eq_false_iff]; intro h; rw [Nat.beq_eq] at h; omega
   refine ⟨.sl b (off + 1 * k) (l.length + 1 - 1) (cap - 1) o, fun F x hx => ?_, .inr ⟨b, off + 1 * k, cap - 1, o, cs, by simp, by omega, hb, hcs, fun i a' hi => ?_⟩⟩
   ·simp only [pK, aEK, jE, iL, aF, hx, List.length_cons, e1, e2, e3, aG, e4, aM, Option.isNone_none]
    cases o <;> rfl
   ·obtain ⟨e, h1, h2, h3⟩ := hel (i + 1) a' (by simpa using hi)
    refine ⟨e, h1, fun j x hj => ?_, h3⟩
    have := h2 j x hj
    rw [show off + 1 * k + i * k + j = off + (i + 1) * k + j by rw [Nat.add_mul]; omega]
    exact this
end Go.Ev.Gl
namespace Go.Ev.Gl
variable {fns : T cA}
theorem aGH (a b : Int) : lU true [.int .i64 a, .int .i64 b] = some (.int .i64 (mx a b)) := by rw [aKH, aLT, aLk]
end Go.Ev.Gl
namespace Go.Ev.Gl
variable {fns : T cA}
def bD (l : List Int) : List AV := l.map (AV.int .i64)
theorem aBC (l : List Int) : (bD l).length = l.length := by simp [bD]
theorem wH {S S' : St} (h : Same S S') {b p n : Nat} {agg : Bool} (hb : b < S.nx) : fK (.ptr b p) agg n S'.h = fK (.ptr b p) agg n S.h := by
 have e := rN h hb
 simp only [fK, oO, vH, mX, e]
theorem aAd {S : St} {b p : Nat} {w : Int} {l : List Int} {o : Bool} {sz : Nat} (h : S.h.get b = some (.cells (bD l) o sz)) (hp : p < l.length) : oH (.ptr b p) 1 [.int .i64 w] S = some (.undef, ⟨S.h.set b (some (.cells (bD (l.set p w)) o sz)), S.nx⟩) := by
 have hput : put (bD l) p [AV.int .i64 w] = some (bD (l.set p w)) := by
  rw [put_eq, if_pos (by rw [aBC]; simp; omega)]
  congr 1
  unfold bD
  rw [List.map_set, List.set_eq_take_append_cons_drop, if_pos (by simp; omega)]
  simp
 simp only [oH, oZ, h, aF, yY, hput]
 rfl
theorem aBy {S : St} {b N sz : Nat} {l : List Int} {o : Bool} (h : S.h.get b = some (.cells (bD l) o sz)) (hb : b < S.nx) (hl : l.length = N) : bS .i64 S (.sl b 0 N N false) l := by
 subst hl
 refine .inr ⟨b, 0, l.length, false, bD l, rfl, Nat.le_refl _, hb, by unfold cP; rw [h]; rfl, fun i x hi => ?_⟩
 rw [Nat.zero_add]
 unfold bD
 rw [List.getElem?_map, hi]
 rfl
theorem gN {b N i : Nat} {o : Bool} (hi : i < N) : eO (.slice 1) (.sl b 0 N N o) i = some (.ptr b i) := ia8 hi
theorem yX {W : Nat → Prop} {h0 : T AB} {base m i : Nat} {l : List AO} {F : Fr} {S : St} {last : Option Nat} {Q : Fr → St → List gI → Prop} {x v : cH} {b p sz : Nat} {w : Int} {P : List Int} {o : Bool} (h : kI last m = true) (hx : x.val F = .ptr b p) (hv : v.val F = .int .i64 w) (hb : S.h.get b = some (.cells (bD P) o sz)) (hp : p < P.length) (hW : W b)
  (hr : ∀ S1, dH b S S1 → S1.nx = S.nx → S1.h.get b = some (.cells (bD (P.set p w)) o sz) → fH fns W h0 base l (i + 1) F S1 [] (some i) Q) : fH fns W h0 base (⟨none, .x (.st 1 x v), none, m⟩ :: l) i F S [] last Q := by
 have hS : dH b S ⟨S.h.set b (some (.cells (bD (P.set p w)) o sz)), S.nx⟩ := (dH.refl b S).put _
 refine uF (S1 := ⟨S.h.set b (some (.cells (bD (P.set p w)) o sz)), S.nx⟩) h ?_ ⟨Nat.le_refl _, fun c hc hw => ?_⟩ (hr _ hS rfl ?_)
 ·rw [hv, cV, aF, hx]; exact aAd (S := S) hb hp
 ·simp only
  rw [T.get_set, if_neg (show ¬ c = b from fun e => hw (by rw [e]; exact hW))]; rfl
 ·simp only
  rw [T.get_set, if_pos rfl]
def tG (T : List cK) (a j : Nat) : Option cK := if a ≤ j then T[j - a]? else none
def gL (sel : cK → Int) (P P' : List Int) (T : List cK) (a : Nat) : Prop := P'.length = P.length ∧ ∀ j, P'.getD j 0 = ((tG T a j).map sel).getD (P.getD j 0)
theorem gL.nil (sel : cK → Int) (P : List Int) (a : Nat) : gL sel P P [] a := ⟨rfl, fun j => by unfold tG; split <;> simp⟩
theorem aKE {T : List cK} {a j : Nat} {t : cK} (h : tG T a j = some t) : a ≤ j ∧ j < a + T.length := by
 unfold tG at h
 split at h
 ·have := (List.getElem?_eq_some_iff.1 h).1
  omega
 ·cases h
theorem aH9 {T : List cK} {a j : Nat} (h : j < a ∨ a + T.length ≤ j) : tG T a j = none := by
 unfold tG
 split
 ·exact List.getElem?_eq_none (by omega)
 ·rfl
theorem aAz (T T' : List cK) (a j : Nat) : tG (T ++ T') a j = (tG T a j).or (tG T' (a + T.length) j) := by
 unfold tG
 by_cases h : a ≤ j
 ·rw [if_pos h, if_pos h, List.getElem?_append]
  by_cases h1 : j - a < T.length
  ·rw [if_pos h1, if_neg (by omega), List.getElem?_eq_getElem h1]; rfl
  ·rw [if_neg h1, if_pos (by omega), List.getElem?_eq_none (l := T) (i := j - a) (by omega), show j - a - T.length = j - (a + T.length) by omega]; rfl
 ·rw [if_neg h, if_neg h, if_neg (by omega)]; rfl
theorem gL.append {sel : cK → Int} {P P1 P2 : List Int} {T T' : List cK} {a : Nat} (h1 : gL sel P P1 T a) (h2 : gL sel P1 P2 T' (a + T.length)) : gL sel P P2 (T ++ T') a := by
 refine ⟨h2.1.trans h1.1, fun j => ?_⟩
 rw [h2.2, h1.2, aAz]
 cases hc : tG T a j with
 | none => rfl
 | some t =>
  have := aKE hc
  rw [aH9 (by omega)]
  rfl
theorem iD {P : List Int} {i j : Nat} {v : Int} (hi : i < P.length) : (P.set i v).getD j 0 = if j = i then v else P.getD j 0 := by
 rw [List.getD_eq_getElem?_getD, List.getElem?_set]
 by_cases h : i = j
 ·subst h; rw [if_pos rfl, if_pos rfl, if_pos hi]; rfl
 ·rw [if_neg h, if_neg (Ne.symm h), List.getD_eq_getElem?_getD]
theorem aFw (t : cK) (a j : Nat) : tG [t] a j = if j = a then some t else none := by
 unfold tG
 by_cases h : j = a
 ·subst h; simp
 ·rw [if_neg h]
  split
  ·exact List.getElem?_eq_none (by simp; omega)
  ·rfl
theorem gL.one {sel : cK → Int} {P : List Int} {t : cK} {a : Nat} {v : Int} (ha : a < P.length) (hv : sel t = v) : gL sel P (P.set a v) [t] a := by
 refine ⟨List.length_set .., fun j => ?_⟩
 rw [iD ha, aFw]
 by_cases h : j = a
 ·rw [if_pos h, if_pos h, ← hv]; rfl
 ·rw [if_neg h, if_neg h]; rfl
theorem gL.late {sel : cK → Int} {P P1 : List Int} {t : cK} {L : List cK} {a : Nat} {v : Int} (h : gL sel P P1 L (a + 1)) (ha : a < P.length) (hv : sel t = v) : gL sel P (P1.set a v) (t :: L) a := by
 refine ⟨by rw [List.length_set]; exact h.1, fun j => ?_⟩
 rw [iD (by rw [h.1]; exact ha), h.2]
 have e : tG (t :: L) a j = (tG [t] a j).or (tG L (a + 1) j) := aAz [t] L a j
 rw [e, aFw]
 by_cases hj : j = a
 ·rw [if_pos hj, if_pos hj, ← hv]; rfl
 ·rw [if_neg hj, if_neg hj]; rfl
end Go.Ev.Gl
namespace Go.Ev.Gl
variable {fns : T cA}
structure WK (S : St) (wb pb db lb N : Nat) (ps : Int) (nv iv : AV) (P D L : List Int) : Prop where
 w : qF S wb ps nv iv (.sl pb 0 N N false) (.sl db 0 N N false) (.sl lb 0 N N false)
 gp : S.h.get pb = some (.cells (bD P) false 0)
 gd : S.h.get db = some (.cells (bD D) false 0)
 gl : S.h.get lb = some (.cells (bD L) false 0)
 lp : P.length = N
 ld : D.length = N
 ll : L.length = N
 bp : pb < S.nx
 bd : db < S.nx
 bl : lb < S.nx
def oI (pb db lb : Nat) (S S' : St) : Prop := S.nx ≤ S'.nx ∧ ∀ c, c < S.nx → c ≠ pb → c ≠ db → c ≠ lb → S'.h.get c = S.h.get c
theorem oI.refl (pb db lb : Nat) (S : St) : oI pb db lb S S := ⟨Nat.le_refl _, fun _ _ _ _ _ => rfl⟩
theorem oI.trans {pb db lb : Nat} {S S' S'' : St} (h : oI pb db lb S S') (h' : oI pb db lb S' S'') : oI pb db lb S S'' := ⟨Nat.le_trans h.1 h'.1, fun c hc h1 h2 h3 => (h'.2 c (Nat.lt_of_lt_of_le hc h.1) h1 h2 h3).trans (h.2 c hc h1 h2 h3)⟩
theorem oI.same {pb db lb : Nat} {S0 S S' : St} (h0 : Same S0 S) (h : oI pb db lb S S') (h1 : S0.nx ≤ pb) (h2 : S0.nx ≤ db) (h3 : S0.nx ≤ lb) : Same S0 S' := ⟨Nat.le_trans h0.1 h.1, fun c hc => (h.2 c (Nat.lt_of_lt_of_le hc h0.1) (by omega) (by omega) (by omega)).trans (h0.2 c hc)⟩
def aNb (S0 S : St) (wb pb db lb : Nat) (ps : Int) (nv iv : AV) (g : bG) (P D L : List Int) (at_ : Nat) (o : Option (List cK)) (r : AV) (S' : St) : Prop :=
 oI pb db lb S S' ∧ ∃ P' D' L', WK S' wb pb db lb g.nodes.length ps nv iv P' D' L' ∧ match o with
 | some T => (∃ v, r = .tup [v, .bool true] ∧ aQ 6 cO S0 v (g.nodes.drop (at_ + T.length))) ∧ gL (·.1) P P' T at_ ∧ gL (·.2.1) D D' T at_ ∧ gL (·.2.2) L L' T at_
 | none => r = .tup [.nilsl, .bool false]
def aNl (S0 S2 : St) (wb pb db lb : Nat) (ps : Int) (nv iv a : AV) (g : bG) (P D L : List Int) (at_ : Nat) (d : Int) (rec : Nat → Option (List cK)) (ks : List Int) (k : Nat) (A : bT) (X : St) : Prop :=
 A.inr = false ∧ oI pb db lb S2 X ∧ ∃ (j : Nat) (T : List cK) (P' D' L' : List Int) (v : AV), j + k = ks.length ∧ at_ + 1 + T.length ≤ g.nodes.length ∧ fF rec ks (at_ + 1) = (fF rec (ks.drop j) (at_ + 1 + T.length)).map (T ++ ·) ∧
  WK X wb pb db lb g.nodes.length ps nv iv P' D' L' ∧ gL (·.1) P P' T (at_ + 1) ∧ gL (·.2.1) D D' T (at_ + 1) ∧ gL (·.2.2) L L' T (at_ + 1) ∧ aQ 6 cO S0 v (g.nodes.drop (at_ + 1 + T.length)) ∧
  aC 0 A.F = .ptr wb 0 ∧ aC 2 A.F = .int .i64 d ∧ aC 10 A.F = .int .i64 (at_ : Int) ∧ aC 11 A.F = v ∧ aC 46 A.F = a ∧ aC 47 A.F = .int .i64 ((ks.length : Nat) : Int) ∧ aC 48 A.F = .int .i64 (j : Int)
set_option maxHeartbeats 4000000 in
theorem aHv {S0 : St} {nv iv : AV} {g : bG} {wb pb db lb : Nat} {ps : Int} (H : Has fns) (hG : aQ 6 cO S0 nv g.nodes) (hwb : S0.nx ≤ wb) (hpb : S0.nx ≤ pb) (hdb : S0.nx ≤ db) (hlb : S0.nx ≤ lb) (ne1 : pb ≠ db) (ne2 : pb ≠ lb) (ne3 : db ≠ lb) (ne4 : wb ≠ pb) (ne5 : wb ≠ db) (ne6 : wb ≠ lb) (hN : g.nodes.length ≤ 2000) (hlen : ∀ x ∈ g.nodes, x.next.length ≤ 1000) :
  ∀ (f : Nat) {S : St} {at_ : Nat} {p d : Int} {rv : AV} {P D L : List Int}, g.nodes.length + 1 - at_ ≤ f → 0 ≤ d → d ≤ at_ → at_ ≤ g.nodes.length → Same S0 S → WK S wb pb db lb g.nodes.length ps nv iv P D L → aQ 6 cO S0 rv (g.nodes.drop at_) →
  iQ fns (.fn 163 [] []) [.ptr wb 0, .int .i64 p, .int .i64 d, rv] S fun r S' => aNb S0 S wb pb db lb ps nv iv g P D L at_ (eR g.nodes.length (dP g) f at_ p d) r S' := by
 intro f
 induction f with
 | zero => intro S at_ p d rv P D L hf hd0 hd hat; omega
 | succ f ih =>
  intro S at_ p d rv P D L hf hd0 hd hat hS hK hrv
  have hrl := hrv.len
  rw [List.length_drop] at hrl
  refine cW H.f163 (by simp) ?_
  simp only [↓sU,sD,rE,↓reduceIte,rA]
  refine cI ?_
  simp only [↓sU,sD,rE,↓reduceIte,rA]
  refine kK ?_
  simp only [↓sU,sD,rE,↓reduceIte,rA, hrl]
  by_cases hlt : at_ < g.nodes.length
  rotate_left
  ·refine bB (by simp only [↓sU,sD,rE,↓reduceIte,rA, decide_eq_true (show ((g.nodes.length - at_ : Nat) : Int) = 0 by omega)]) ?_
   refine cI ?_
   simp only [↓sU,sD,rE,↓reduceIte,rA]
   refine aY ?_
   simp only [↓sU,sD,rE,↓reduceIte,rA]
   simp only [eR, if_neg hlt]
   exact ⟨oI.refl _ _ _ _, P, D, L, hK, rfl⟩
  refine aX (by simp only [↓sU,sD,rE,↓reduceIte,rA, decide_eq_false (show ¬ ((g.nodes.length - at_ : Nat) : Int) = 0 by omega)]) (aO ?_)
  try simp only [↓sU,sD,rE,↓reduceIte,rA]
  obtain ⟨x, hx⟩ : ∃ x, g.nodes[at_]? = some x := ⟨_, List.getElem?_eq_getElem hlt⟩
  have hnx := vY hx
  have hxl := hlen x (List.mem_of_getElem? hx)
  have hnl := hG.len
  have hdrop : g.nodes.drop at_ = x :: g.nodes.drop (at_ + 1) := by
   rw [List.drop_eq_getElem_cons hlt]
   congr 1
   rw [List.getElem?_eq_getElem hlt] at hx
   exact Option.some.inj hx
  rw [hdrop] at hrv
  have w1 : IntKind.i64.wrap (((g.nodes.length : Nat) : Int) - ((g.nodes.length - at_ : Nat) : Int)) = (at_ : Int) := by rw [wrap_i64 (by omega) (by omega)]; omega
  refine cI ?_
  simp only [↓sU,sD,rE,↓reduceIte,rA, aS, aT, aB, aA, eQ hK.w.1, hnl, hrl, w1]
  have wlt := hK.w.2
  have hwn : ¬ (wb = pb ∨ wb = db) := by omega
  refine aE (mT (fun b => b = pb ∨ b = db) ?_)
  intro S1 s1
  have hia1 := gN (b := pb) (o := false) hlt
  have hia2 := gN (b := db) (o := false) hlt
  simp only [↓sU,sD,rE,↓reduceIte,rA, aS, bF, aT, aB, aN, aA, fI hK.w.1, fM hK.w.1, wlt, hwn, not_false_eq_true, hia1, hia2]
  have l1 := s1.1
  have bp := hK.bp
  have bd := hK.bd
  have bl := hK.bl
  refine yX (p := at_) (w := p) rfl (by simp only [↓sU,sD,rE,↓reduceIte,rA]) (by simp only [↓sU,sD,rE,↓reduceIte,rA]) (by rw [s1.2 _ hK.bp]; exact hK.gp) (by rw [hK.lp]; exact hlt) (.inl rfl) ?_
  intro S2 s2 n2 c2
  simp only [↓sU,sD,rE,↓reduceIte,rA, hia2]
  refine yX (p := at_) (w := d) (show Nat.testBit 32767 13 = true by decide) (by simp only [↓sU,sD,rE,↓reduceIte,rA]) (by simp only [↓sU,sD,rE,↓reduceIte,rA]) (by rw [s2.2 _ (by omega) (Ne.symm ne1), s1.2 _ hK.bd]; exact hK.gd) (by rw [hK.ld]; exact hlt) (.inr rfl) ?_
  intro S3 s3 n3 c3
  simp only [↓sU,sD,rE,↓reduceIte,rA]
  have b3 : oI pb db lb S S3 := ⟨by omega, fun c hc h1 h2 h3 => by rw [s3.2 _ (by omega) h2, s2.2 _ (by omega) h1, s1.2 _ hc]⟩
  have hS3 : Same S0 S3 := b3.same hS hpb hdb hlb
  have hK3 : WK S3 wb pb db lb g.nodes.length ps nv iv (P.set at_ p) (D.set at_ d) L := ⟨⟨by rw [b3.2 _ wlt ne4 ne5 ne6]; exact hK.w.1, Nat.lt_of_lt_of_le wlt b3.1⟩, by rw [s3.2 _ (by omega) ne1]; exact c2, c3, by rw [s3.2 _ (by omega) (Ne.symm ne3), s2.2 _ (by omega) (Ne.symm ne2), s1.2 _ hK.bl]; exact hK.gl, by rw [List.length_set]; exact hK.lp, by rw [List.length_set]; exact hK.ld, hK.ll, by omega, by omega, by omega⟩
  obtain ⟨rv', hslc, hrv'⟩ := aQ.tail hrv
  have hsl1 : ∀ F : Fr, pK (.slice 6) rv (some (.c (.int .i64 1))) none none F = some rv' := fun F => hslc F _ rfl
  refine cI ?_
  simp only [↓sU,sD,rE,↓reduceIte,rA, hsl1]
  obtain ⟨e, b, q, hia, hb, he, ⟨a, bb, cc, rfl, ha, _, _⟩, _, hlf⟩ := aQ.at hrv (by decide) (i := 0) rfl
  have hl3 := hlf 3 a rfl
  rw [← wH hS3 hb] at hl3
  refine kK ?_
  simp only [↓sU,sD,rE,↓reduceIte,rA, aCC, hia, aB, aA, hl3, ha.len, Int.ofNat_eq_natCast]
  have hW : eR g.nodes.length (dP g) (f + 1) at_ p d = (fF (fun r => eR g.nodes.length (dP g) f r at_ (d + 1)) x.next (at_ + 1)).map fun L => (p, d, ((at_ + L.length : Nat) : Int)) :: L := by
   simp only [eR, if_pos hlt, hnx]
  rw [hW]
  refine bP (Q := fun o A' X => (o = .normal ∧ aNl S0 S3 wb pb db lb ps nv iv a g (P.set at_ p) (D.set at_ d) L at_ d (fun r => eR g.nodes.length (dP g) f r at_ (d + 1)) x.next 0 A' X) ∨ (o = .ret ∧ oI pb db lb S3 X ∧ fF (fun r => eR g.nodes.length (dP g) f r at_ (d + 1)) x.next (at_ + 1) = none ∧ aC 8 A'.F = .nilsl ∧ aC 9 A'.F = .bool false ∧ ∃ P' D' L', WK X wb pb db lb g.nodes.length ps nv iv P' D' L')) (bE (cS (aNl S0 S3 wb pb db lb ps nv iv a g (P.set at_ p) (D.set at_ d) L at_ d (fun r => eR g.nodes.length (dP g) f r at_ (d + 1)) x.next) ?_ x.next.length _ _ ⟨rfl, oI.refl _ _ _ _, 0, [], P.set at_ p, D.set at_ d, L, rv', by omega, by rw [List.length_nil]; omega, by simp, hK3, gL.nil _ _ _, gL.nil _ _ _, gL.nil _ _ _, hrv', by simp only [↓sU,sD,rE,↓reduceIte,rA], by simp only [↓sU,sD,rE,↓reduceIte,rA], by simp only [↓sU,sD,rE,↓reduceIte,rA], by simp only [↓sU,sD,rE,↓reduceIte,rA], by simp only [↓sU,sD,rE,↓reduceIte,rA], by simp only [↓sU,sD,rE,↓reduceIte,rA], by simp only [↓sU,sD,rE,↓reduceIte,rA]⟩)) ?_
  ·rintro k ⟨F, inr⟩ X ⟨q0, hX, j, T, P', D', L', v, hjk, hTN, hkid, hKX, rP, rD, rL, hv, p0, p2, p10, p11, p46, p47, p48⟩
   simp only at q0 p0 p2 p10 p11 p46 p47 p48
   subst q0
   have hSX : Same S0 X := hX.same hS3 hpb hdb hlb
   have haX := ha.same hSX
   have hvl := hv.len
   rw [List.length_drop] at hvl
   refine cI ?_
   simp only [↓sU,sD,rE,↓reduceIte,rA, p47, p48]
   by_cases hj : j < x.next.length
   ·refine aE (bB (by simp only [↓sU,sD,rE,↓reduceIte,rA, decide_eq_true (show (j : Int) < ((x.next.length : Nat) : Int) by omega)]) (aO ?_))
    simp only [↓sU,sD,rE,↓reduceIte,rA]
    have hias := haX.iaddr hj
    have hlds := haX.ld hj
    have hdr : x.next.drop j = x.next[j] :: x.next.drop (j + 1) := List.drop_eq_getElem_cons hj
    have hgd : x.next.getD j 0 = x.next[j] := by rw [List.getD_eq_getElem?_getD, List.getElem?_eq_getElem hj]; rfl
    rw [hgd] at hlds
    rw [hdr] at hkid
    generalize x.next[j] = c at *
    have w2 : IntKind.i64.wrap (((g.nodes.length : Nat) : Int) - ((g.nodes.length - (at_ + 1 + T.length) : Nat) : Int)) = ((at_ + 1 + T.length : Nat) : Int) := by rw [wrap_i64 (by omega) (by omega)]; omega
    have w3 : IntKind.i64.wrap (d + 1) = d + 1 := wrap_i64 (by omega) (by omega)
    have w4 : IntKind.i64.wrap ((j : Int) + 1) = ((j + 1 : Nat) : Int) := by rw [wrap_i64 (by omega) (by omega)]; omega
    refine aE (bE (aE (aR ?_)))
    simp only [↓sU,sD,rE,↓reduceIte,rA, p46, p48, aL, hias, hlds]
    refine kK ?_
    simp only [↓sU,sD,rE,↓reduceIte,rA, p0, p11, aS, aT, aB, aA, eQ hKX.w.1, hnl, hvl, w2]
    by_cases hc : c = ((at_ + 1 + T.length : Nat) : Int)
    rotate_left
    ·refine bB (by simp only [↓sU,sD,rE,↓reduceIte,rA, decide_eq_true (show c ≠ ((at_ + 1 + T.length : Nat) : Int) from hc)]) ?_
     refine cI ?_
     simp only [↓sU,sD,rE,↓reduceIte,rA]
     refine aY ?_
     simp only [↓sU,sD,rE,↓reduceIte,rA]
     refine .inr ⟨hX, ?_, P', D', L', hKX⟩
     rw [hkid]
     simp only [fF, if_neg hc]
     rfl
    refine aX (by simp only [↓sU,sD,rE,↓reduceIte,rA, decide_eq_false (show ¬ c ≠ ((at_ + 1 + T.length : Nat) : Int) from fun h => h hc)]) (aO ?_)
    try simp only [↓sU,sD,rE,↓reduceIte,rA]
    simp only [fF, if_pos hc] at hkid
    refine cI ?_
    simp only [↓sU,sD,rE,↓reduceIte,rA, p0, p2, p10, p11, w3]
    refine bL ?_
    simp only [↓sU,sD,rE,↓reduceIte,rA]
    refine aW (ih (S := X) (at_ := at_ + 1 + T.length) (p := at_) (d := d + 1) (by omega) (by omega) (by omega) hTN hSX hKX hv) ?_
    rintro r Y ⟨hY, P2, D2, L2, hKY, hres⟩
    cases hw : eR g.nodes.length (dP g) f (at_ + 1 + T.length) at_ (d + 1) with
    | none =>
     rw [hw] at hres hkid
     subst hres
     simp only [↓sU,sD,rE,↓reduceIte,rA, ex0, ex1]
     refine cI ?_
     simp only [↓sU,sD,rE,↓reduceIte,rA, gO, Bool.not_false]
     refine bB (by simp only [↓sU,sD,rE,↓reduceIte,rA]) ?_
     refine cI ?_
     simp only [↓sU,sD,rE,↓reduceIte,rA]
     refine aY ?_
     simp only [↓sU,sD,rE,↓reduceIte,rA]
     refine .inr ⟨hX.trans hY, ?_, P2, D2, L2, hKY⟩
     rw [hkid]
     rfl
    | some T1 =>
     rw [hw] at hres hkid
     obtain ⟨⟨v2, rfl, hv2⟩, k1, k2, k3⟩ := hres
     simp only [Option.bind_some, Option.map_map] at hkid
     have hwl := (zI hw).1
     simp only [↓sU,sD,rE,↓reduceIte,rA, ex0, ex1]
     refine cI ?_
     simp only [↓sU,sD,rE,↓reduceIte,rA, gO, Bool.not_true]
     refine aX (by simp only [↓sU,sD,rE,↓reduceIte,rA]) (aO ?_)
     try simp only [↓sU,sD,rE,↓reduceIte,rA]
     refine aR ?_
     simp only [↓sU,sD,rE,↓reduceIte,rA, p48, w4]
     refine ⟨k - 1, by omega, rfl, hX.trans hY, j + 1, T ++ T1, P2, D2, L2, v2, by omega, by rw [List.length_append]; omega, ?_, hKY, rP.append k1, rD.append k2, rL.append k3, by rw [List.length_append, ← Nat.add_assoc]; exact hv2, by simp only [↓sU,sD,rE,↓reduceIte,rA, p0], by simp only [↓sU,sD,rE,↓reduceIte,rA, p2], by simp only [↓sU,sD,rE,↓reduceIte,rA, p10], by simp only [↓sU,sD,rE,↓reduceIte,rA], by simp only [↓sU,sD,rE,↓reduceIte,rA, p46], by simp only [↓sU,sD,rE,↓reduceIte,rA, p47], by simp only [↓sU,sD,rE,↓reduceIte,rA]⟩
     rw [hkid, List.length_append, ← Nat.add_assoc]
     congr 1
     funext M
     simp
   ·refine aE (aX (by simp only [↓sU,sD,rE,↓reduceIte,rA, decide_eq_false (show ¬ (j : Int) < ((x.next.length : Nat) : Int) by omega)]) (cL ?_))
    simp only [↓sU,sD,rE,↓reduceIte,rA]
    have hk0 : k = 0 := by omega
    subst hk0
    exact .inl ⟨rfl, hX, j, T, P', D', L', v, hjk, hTN, hkid, hKX, rP, rD, rL, hv, by simp only [↓sU,sD,rE,↓reduceIte,rA, p0], by simp only [↓sU,sD,rE,↓reduceIte,rA, p2], by simp only [↓sU,sD,rE,↓reduceIte,rA, p10], by simp only [↓sU,sD,rE,↓reduceIte,rA, p11], by simp only [↓sU,sD,rE,↓reduceIte,rA, p46], by simp only [↓sU,sD,rE,↓reduceIte,rA, p47], by simp only [↓sU,sD,rE,↓reduceIte,rA, p48]⟩
  rintro o ⟨F, inr⟩ X (⟨rfl, q0, hX, j, T, P', D', L', v, hjk, hTN, hkid, hKX, rP, rD, rL, hv, p0, p2, p10, p11, p46, p47, p48⟩ | ⟨rfl, hX, hno, p8, p9, P', D', L', hKX⟩)
  rotate_left
  ·rw [hno]
   simp only at p8 p9
   simp only [↓sU,sD,rE,↓reduceIte,rA, p8, p9]
   exact ⟨b3.trans hX, P', D', L', hKX, rfl⟩
  simp only at q0 p0 p10 p11
  subst q0
  rw [List.drop_of_length_le (by omega)] at hkid
  simp only [fF, Option.map_some, List.append_nil] at hkid
  rw [hkid]
  have hvl := hv.len
  rw [List.length_drop] at hvl
  have w2 : IntKind.i64.wrap (((g.nodes.length : Nat) : Int) - ((g.nodes.length - (at_ + 1 + T.length) : Nat) : Int)) = ((at_ + 1 + T.length : Nat) : Int) := by rw [wrap_i64 (by omega) (by omega)]; omega
  have w5 : IntKind.i64.wrap (((at_ + 1 + T.length : Nat) : Int) - 1) = ((at_ + T.length : Nat) : Int) := by rw [wrap_i64 (by omega) (by omega)]; omega
  have wltX := hKX.w.2
  have hia3 := gN (b := lb) (o := false) hlt
  try simp only [↓sU,sD,rE,↓reduceIte,rA]
  refine aE (mT (fun b => b = lb) ?_)
  intro S4 s4
  simp only [↓sU,sD,rE,↓reduceIte,rA, p0, p10, p11, aS, bF, aT, aB, aN, aA, eQ hKX.w.1, gK hKX.w.1, hnl, hvl, w2, w5, wltX, ne6, not_false_eq_true, hia3, aQ.self hG]
  have l4 := s4.1
  have bpX := hKX.bp
  have bdX := hKX.bd
  have blX := hKX.bl
  refine yX (p := at_) (w := ((at_ + T.length : Nat) : Int)) rfl (by simp only [↓sU,sD,rE,↓reduceIte,rA]) (by simp only [↓sU,sD,rE,↓reduceIte,rA]) (by rw [s4.2 _ hKX.bl]; exact hKX.gl) (by rw [hKX.ll]; exact hlt) rfl ?_
  intro S5 s5 n5 c5
  simp only [↓sU,sD,rE,↓reduceIte,rA]
  have b5 : oI pb db lb X S5 := ⟨by omega, fun c hc h1 h2 h3 => by rw [s5.2 _ (by omega) h3, s4.2 _ hc]⟩
  refine cI ?_
  simp only [↓sU,sD,rE,↓reduceIte,rA, p11]
  refine aY ?_
  simp only [↓sU,sD,rE,↓reduceIte,rA]
  have hatP : at_ < P.length := by rw [hK.lp]; exact hlt
  have hatD : at_ < D.length := by rw [hK.ld]; exact hlt
  have hatL : at_ < L.length := by rw [hK.ll]; exact hlt
  refine ⟨b3.trans (hX.trans b5), P', D', L'.set at_ ((at_ + T.length : Nat) : Int), ⟨⟨by rw [b5.2 _ wltX ne4 ne5 ne6]; exact hKX.w.1, Nat.lt_of_lt_of_le wltX b5.1⟩, by rw [s5.2 _ (by omega) ne2, s4.2 _ hKX.bp]; exact hKX.gp, by rw [s5.2 _ (by omega) ne3, s4.2 _ hKX.bd]; exact hKX.gd, c5, hKX.lp, hKX.ld, by rw [List.length_set]; exact hKX.ll, by show _ < S5.nx; omega, by show _ < S5.nx; omega, by show _ < S5.nx; omega⟩, ⟨v, rfl, ?_⟩, ?_, ?_, ?_⟩
  ·rw [List.length_cons, show at_ + (T.length + 1) = at_ + 1 + T.length by omega]; exact hv
  ·exact gL.append (T := [(p, d, ((at_ + T.length : Nat) : Int))]) (gL.one hatP rfl) rP
  ·exact gL.append (T := [(p, d, ((at_ + T.length : Nat) : Int))]) (gL.one hatD rfl) rD
  ·exact gL.late rL hatL rfl
end Go.Ev.Gl
