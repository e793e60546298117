import Derived.Test.YtoojnpjgnnpllaaGl5
open Nat renaming reduceEqDiff → rE, reduceAdd → rA
set_option maxHeartbeats 16000000
set_option linter.unusedSimpArgs false
set_option linter.unusedVariables false
namespace Go.Ev.Gl
variable {fns : T eJ}
structure cM where
 kind : Int
 player : Int
 info : Int
 next : List Int
 weights : List Int
 pay : List Int
structure iC where
 player : Int
 actions : Int
structure bF where
 players : Int
 nodes : List cM
 infos : List iC
def iT (lo hi : Int) (l : List Int) : Prop := ∃ w ∈ l, w < lo ∨ hi < w
instance anyOutDec (lo hi : Int) (l : List Int) : Decidable (iT lo hi l) := by unfold iT; exact inferInstance
def pO (x : cM) : Prop := x.player ≠ 0 ∨ x.info ≠ 0 ∨ (0 : Int) < ((x.pay.length : Nat) : Int) ∨ ((x.next.length : Nat) : Int) < 1 ∨ (60 : Int) < ((x.next.length : Nat) : Int) ∨ ((x.weights.length : Nat) : Int) ≠ ((x.next.length : Nat) : Int)
def tN (x : cM) : Prop := (0 : Int) < ((x.weights.length : Nat) : Int) ∨ (0 : Int) < ((x.pay.length : Nat) : Int) ∨ ((x.next.length : Nat) : Int) < 1 ∨ (10 : Int) < ((x.next.length : Nat) : Int)
def qV (ps : Int) (x : cM) : Prop := x.player ≠ 0 ∨ x.info ≠ 0 ∨ (0 : Int) < ((x.next.length : Nat) : Int) ∨ (0 : Int) < ((x.weights.length : Nat) : Int) ∨ ((x.pay.length : Nat) : Int) ≠ ps
instance badCDec (x : cM) : Decidable (pO x) := by unfold pO; exact inferInstance
instance badMDec (x : cM) : Decidable (tN x) := by unfold tN; exact inferInstance
instance badEDec (ps : Int) (x : cM) : Decidable (qV ps x) := by unfold qV; exact inferInstance
def iG (ps : Int) (ni : Nat) (x : cM) : Int :=
 if x.kind = 1 then (if pO x then 3 else if iT 1 1000 x.weights then 2 else 0)
 else if x.kind = 2 then (if tN x then 3 else if x.player < 0 ∨ ps - 1 < x.player ∨ x.info < 0 ∨ (ni : Int) - 1 < x.info then 2 else 0)
 else if x.kind = 3 then (if qV ps x then 3 else if iT (-1000000) 1000000 x.pay then 2 else 0)
 else 3
def cL (S : St) (cs : List AV) (x : cM) : Prop := ∃ a b c, cs = [.int .i64 x.kind, .int .i64 x.player, .int .i64 x.info, a, b, c] ∧ bO .i64 S a x.next ∧ bO .i64 S b x.weights ∧ bO .i64 S c x.pay
theorem cB : aB5 cL := fun ⟨a, b, c, h, h1, h2, h3⟩ hs => ⟨a, b, c, h, h1.same hs, h2.same hs, h3.same hs⟩
def dB (_ : St) (cs : List AV) (x : iC) : Prop := cs = [.int .i64 x.player, .int .i64 x.actions]
theorem cQ : aB5 dB := fun h _ => h
theorem ldc {h : T AB} {b j : Nat} {cs : List AV} {x : AV} {o : Bool} {s : Nat} (hb : h.get b = some (.cells cs o s)) (hj : cs[j]? = some x) : fH (.ptr b (0 + j)) false 1 h = some x := by
 simp only [fH, oD, aL, mS, cP, hb, aE, nO, qP, Am, hj]
theorem pS {h : T AB} {b n : Nat} {cs : List AV} {o : Bool} {s : Nat} (hb : h.get b = some (.cells cs o s)) (hn : cs.length = n) : fH (.ptr b 0) true n h = some (.agg cs) := by
 subst hn
 simp only [fH, oD, aF, tV, cP, hb, aE, nO]
 unfold cut
 rw [fO, fZ, Dk, if_pos (Af _), List.take_length]
 rfl
section
variable {h : T AB} {b : Nat} {x0 x1 x2 x3 x4 x5 : AV} {o : Bool} {s : Nat}
theorem fD (hb : h.get b = some (.cells [x0, x1, x2, x3, x4, x5] o s)) : fH (.ptr b (0 + 0)) false 1 h = some x0 := ldc hb rfl
theorem eY (hb : h.get b = some (.cells [x0, x1, x2, x3, x4, x5] o s)) : fH (.ptr b (0 + 1)) false 1 h = some x1 := ldc hb rfl
theorem fP (hb : h.get b = some (.cells [x0, x1, x2, x3, x4, x5] o s)) : fH (.ptr b (0 + 2)) false 1 h = some x2 := ldc hb rfl
theorem eV (hb : h.get b = some (.cells [x0, x1, x2, x3, x4, x5] o s)) : fH (.ptr b (0 + 3)) false 1 h = some x3 := ldc hb rfl
theorem fL (hb : h.get b = some (.cells [x0, x1, x2, x3, x4, x5] o s)) : fH (.ptr b (0 + 4)) false 1 h = some x4 := ldc hb rfl
theorem gI (hb : h.get b = some (.cells [x0, x1, x2, x3, x4, x5] o s)) : fH (.ptr b (0 + 5)) false 1 h = some x5 := ldc hb rfl
theorem ldN (hb : h.get b = some (.cells [x0, x1, x2, x3, x4, x5] o s)) : fH (.ptr b 0) true 6 h = some (.agg [x0, x1, x2, x3, x4, x5]) := pS hb rfl
end
section
variable {k : Nat} {α : Type} {E : St → List AV → α → Prop} {S : St} {v : AV} {l : List α}
theorem aM.at (h : aM k E S v l) (hk : 0 < k) {i : Nat} {a : α} (hi : l[i]? = some a) : ∃ e b p, eT (.slice k) v i = some (.ptr b p) ∧ b < S.nx ∧ e.length = k ∧ E S e a ∧ fH (.ptr b p) true k S.h = some (.agg e) ∧ ∀ j x, e[j]? = some x → fH (.ptr b (p + j)) false 1 S.h = some x := by
 obtain ⟨e, b, p, h1, h2, h3, h4, cs, h5, h6⟩ := h.get hi
 have hlt := (Ai.1 hi).1
 refine ⟨e, b, p, by rw [← h1]; exact h.iaddr hlt, h2, h3, h4, ?_, fun j x hj => ?_⟩
 ·simp only [fH, oD, aF, tV, h5, aE]
  have hcut : cut cs p k = some e := by
   have hle : p + k ≤ cs.length := by
    have := h6 (k - 1) (e[k - 1]'(by omega)) (Ab (by omega))
    have := (Ai.1 this).1
    omega
   unfold cut
   rw [fO, fZ, if_pos (by rw [Cq]; omega)]
   congr 1
   refine En (by rw [Bs, Cq]; omega) fun j j1 j2 => ?_
   have := h6 j e[j] (Ab j2)
   rw [List.getElem_take, List.getElem_drop]
   exact (Ai.1 this).2
  rw [hcut, aE]
 ·simp only [fH, oD, aL, mS, h5, aE, qP]
  exact h6 j x hj
end
theorem aEa {lo hi : Int} {l : List Int} {i : Nat} (hi' : i < l.length) (h : ¬ iT lo hi (l.take i)) (h2 : ¬ (l.getD i 0 < lo ∨ hi < l.getD i 0)) : ¬ iT lo hi (l.take (i + 1)) := by
 rintro ⟨w, hw, ho⟩
 rw [Cl, Ab hi'] at hw
 rcases Bh.1 hw with h1 | h1
 ·exact h ⟨w, h1, ho⟩
 ·simp at h1
  rw [Ac, Ab hi'] at h2
  subst h1
  exact h2 ho
theorem aFe {lo hi : Int} {l : List Int} {i : Nat} (hi' : i < l.length) (h2 : l.getD i 0 < lo ∨ hi < l.getD i 0) : iT lo hi l := by
 rw [Ac, Ab hi'] at h2
 exact ⟨l[i], Bt hi', h2⟩
theorem bO.self {k : IntKind} {S : St} {v : AV} {l : List Int} (h : bO k S v l) : cO v v = true := by
 rcases h with ⟨_, h | h⟩ | ⟨b, off, cap, o, cs, rfl, _⟩
 ·subst h; rfl
 ·subst h; rfl
 ·exact mK ..
theorem aM.self {k : Nat} {α : Type} {E : St → List AV → α → Prop} {S : St} {v : AV} {l : List α} (h : aM k E S v l) : cO v v = true := by
 rcases h with ⟨_, h | h⟩ | ⟨b, off, cap, o, cs, rfl, _⟩
 ·subst h; rfl
 ·subst h; rfl
 ·exact mK ..
theorem aIv {k : IntKind} {S : St} {b : Nat} {z : Int} (hb : b < S.nx) (h : S.h.get b = some (.cells [.int k z] false 0)) : bO k S (.sl b 0 1 1 false) [z] := by
 refine .inr ⟨b, 0, 1, false, [.int k z], rfl, Af _, hb, by unfold cP; rw [h]; rfl, fun i x hi => ?_⟩
 cases i with
 | zero => simp at hi; subst hi; rfl
 | succ i => simp at hi
theorem aBH {lo hi z : Int} : iT lo hi [z] ↔ z < lo ∨ hi < z := by
 unfold iT
 simp
theorem aCw {x0 x1 x2 x3 x4 x5 : AV} (h0 : cO x0 x0 = true) (h1 : cO x1 x1 = true) (h2 : cO x2 x2 = true) (h3 : cO x3 x3 = true) (h4 : cO x4 x4 = true) (h5 : cO x5 x5 = true) : cO (.agg [x0, x1, x2, x3, x4, x5]) (.agg [x0, x1, x2, x3, x4, x5]) = true := by
 simp only [cO, mQ, h0, h1, h2, h3, h4, h5, aF]
theorem aGZ {S : St} {b3 b4 : Nat} {lo hi w : Int} (H : Has fns) (g3 : S.h.get b3 = some (.cells [.int .i64 lo] false 0)) (g4 : S.h.get b4 = some (.cells [.int .i64 hi] false 0)) : iM fns (.fn 184 [] [.ptr b3 0, .ptr b4 0]) [.int .i64 w] S fun r S' => r = .bool (decide (w < lo ∨ hi < w)) ∧ S' = S := by
 have l3 : fH (.ptr b3 0) false 1 S.h = some (.int .i64 lo) := ldc (j := 0) g3 rfl
 have l4 : fH (.ptr b4 0) false 1 S.h = some (.int .i64 hi) := ldc (j := 0) g4 rfl
 refine cV H.f184 (by simp) ?_
 simp only [↓aH,aJ,rE,↓reduceIte]
 refine cF ?_
 simp only [↓aH,aJ,rE,↓reduceIte]
 refine cF ?_
 by_cases h1 : w < lo
 ·rw [Ad (show w < lo ∨ hi < w from .inl h1)]
  simp only [↓aH,aJ,rE,↓reduceIte, l3, Ad h1]
  refine bD ?_
  simp only [↓aH,aJ,rE,↓reduceIte]
 ·by_cases h2 : hi < w
  ·rw [Ad (show w < lo ∨ hi < w from .inr h2)]
   simp only [↓aH,aJ,rE,↓reduceIte, l3, l4, Aa h1, Ad h2]
   refine bD ?_
   simp only [↓aH,aJ,rE,↓reduceIte]
  ·rw [Aa (show ¬ (w < lo ∨ hi < w) by omega)]
   simp only [↓aH,aJ,rE,↓reduceIte, l3, l4, Aa h1, Aa h2]
   refine bD ?_
   simp only [↓aH,aJ,rE,↓reduceIte]
def aN9 (S : St) (v f : AV) (lo hi : Int) (l : List Int) (k : Nat) (A : bT) (X : St) : Prop := A.inr = false ∧ X = S ∧ ∃ i, i + k = l.length ∧ ¬ iT lo hi (l.take i) ∧ aC 0 A.F = v ∧ aC 1 A.F = f ∧ aC 7 A.F = .int .i64 ((l.length : Nat) : Int) ∧ aC 8 A.F = .int .i64 (i : Int)
theorem aFW {S : St} {b3 b4 : Nat} {lo hi : Int} {v : AV} {l : List Int} (H : Has fns) (g3 : S.h.get b3 = some (.cells [.int .i64 lo] false 0)) (g4 : S.h.get b4 = some (.cells [.int .i64 hi] false 0)) (hl : bO .i64 S v l) (hlen : l.length ≤ 1000000) : iM fns (.fn 186 [] []) [v, .fn 184 [] [.ptr b3 0, .ptr b4 0]] S fun r S' => (∃ z, r = .int .i64 z ∧ (0 ≤ z ↔ iT lo hi l)) ∧ S' = S := by
 refine cV H.f186 (by simp) ?_
 simp only [↓aH,aJ,rE,↓reduceIte]
 refine cF ?_
 simp only [↓aH,aJ,rE,↓reduceIte]
 refine jH ?_
 simp only [↓aH,aJ,rE,↓reduceIte, hl.len, Aj]
 refine aU (cI (aN9 S v (.fn 184 [] [.ptr b3 0, .ptr b4 0]) lo hi l) ?_ l.length _ _ ⟨rfl, rfl, 0, by omega, (by rintro ⟨w, h, _⟩; simp at h), by refine ⟨?_,?_,?_,?_⟩<;>simp only [↓aH,aJ,rE,↓reduceIte]⟩)
 rintro k ⟨F, inr⟩ X ⟨q0, hX, j, hjk, ha, p0, p1, p7, p8⟩
 simp only at q0 p0 p1 p7 p8
 subst q0
 rw [hX]
 refine cF ?_
 simp only [↓aH,aJ,rE,↓reduceIte, p7, p8]
 by_cases hj : j < l.length
 ·refine aD (aY (by simp only [↓aH,aJ,rE,↓reduceIte, Ad (show (j : Int) < ((l.length : Nat) : Int) by omega)]) (aN ?_))
  simp only [↓aH,aJ,rE,↓reduceIte]
  have hia := hl.iaddr hj
  have hld := hl.ld hj
  have htk := aEa (lo := lo) (hi := hi) hj ha
  have hget := aFe (lo := lo) (hi := hi) hj
  generalize l.getD j 0 = w at *
  have w1 : IntKind.i64.wrap ((j : Int) + 1) = ((j + 1 : Nat) : Int) := by rw [wrap_i64 (by omega) (by omega)]; omega
  refine aD (aU (aD (aP ?_)))
  simp only [↓aH,aJ,rE,↓reduceIte, p8]
  refine cF ?_
  simp only [↓aH,aJ,rE,↓reduceIte, p0, p1, aG, hia, hld]
  refine bJ ?_
  simp only [↓aH,aJ,rE,↓reduceIte]
  refine aW (aGZ H g3 g4) ?_
  rintro _ Y ⟨rfl, hY⟩
  rw [hY]
  try simp only [↓aH,aJ,rE,↓reduceIte]
  by_cases ho : w < lo ∨ hi < w
  ·refine aY (by simp only [↓aH,aJ,rE,↓reduceIte, Ad ho]) ?_
   refine cF ?_
   simp only [↓aH,aJ,rE,↓reduceIte]
   refine bD ?_
   simp only [↓aH,aJ,rE,↓reduceIte]
   exact ⟨_, rfl, ⟨fun _ => hget ho, fun _ => by omega⟩⟩
  ·refine aT (by simp only [↓aH,aJ,rE,↓reduceIte, Aa ho]) (aN ?_)
   try simp only [↓aH,aJ,rE,↓reduceIte]
   refine aP ?_
   simp only [↓aH,aJ,rE,↓reduceIte, p8, w1]
   exact ⟨k - 1, by omega, rfl, rfl, j + 1, by omega, htk ho, by refine ⟨?_,?_,?_,?_⟩<;>simp only [↓aH,aJ,rE,↓reduceIte,p0,p1,p7]⟩
 ·refine aD (aT (by simp only [↓aH,aJ,rE,↓reduceIte, Aa (show ¬ (j : Int) < ((l.length : Nat) : Int) by omega)]) (cC ?_))
  simp only [↓aH,aJ,rE,↓reduceIte]
  have hno : ¬ iT lo hi l := by rw [Bn (by omega)] at ha; exact ha
  refine cF ?_
  simp only [↓aH,aJ,rE,↓reduceIte]
  refine bD ?_
  simp only [↓aH,aJ,rE,↓reduceIte]
  exact ⟨_, rfl, ⟨fun h => absurd h (by decide), fun h => absurd h hno⟩⟩
theorem aFY {S : St} {b3 b4 : Nat} {lo hi : Int} {v : AV} {l : List Int} (H : Has fns) (g3 : S.h.get b3 = some (.cells [.int .i64 lo] false 0)) (g4 : S.h.get b4 = some (.cells [.int .i64 hi] false 0)) (hl : bO .i64 S v l) (hlen : l.length ≤ 1000000) : iM fns (.fn 183 [] []) [v, .fn 184 [] [.ptr b3 0, .ptr b4 0]] S fun r S' => r = .bool (decide (iT lo hi l)) ∧ S' = S := by
 refine cV H.f183 (by simp) ?_
 simp only [↓aH,aJ,rE,↓reduceIte]
 refine cF ?_
 simp only [↓aH,aJ,rE,↓reduceIte]
 refine cF ?_
 simp only [↓aH,aJ,rE,↓reduceIte]
 refine bJ ?_
 simp only [↓aH,aJ,rE,↓reduceIte]
 refine aW (aFW H g3 g4 hl hlen) ?_
 rintro _ Y ⟨⟨z, rfl, hz⟩, hY⟩
 rw [hY]
 have hd : decide ((0 : Int) ≤ z) = decide (iT lo hi l) := by rw [Ce, Db, Db]; exact hz
 simp only [↓aH,aJ,rE,↓reduceIte, hd]
 refine bD ?_
 simp only [↓aH,aJ,rE,↓reduceIte]
theorem nS {S : St} {lo hi : Int} {v : AV} {l : List Int} (H : Has fns) (hl : bO .i64 S v l) (hlen : l.length ≤ 1000000) : iM fns (.fn 180 [] []) [.int .i64 lo, .int .i64 hi, v] S fun r S' => r = .int .i64 (if iT lo hi l then 2 else 0) ∧ Same S S' := by
 refine cV H.f180 (by simp) ?_
 simp only [↓aH,aJ,rE,↓reduceIte]
 refine cF ?_
 refine eQ (by simp only [↓aH,aJ,rE,↓reduceIte]; exact cT _ _) ?_
 intro S1 s1 n1 c1
 refine eQ (by simp only [↓aH,aJ,rE,↓reduceIte]; exact cT _ _) ?_
 intro S2 s2 n2 c2
 simp only [↓aH,aJ,rE,↓reduceIte]
 have sS := s1.trans s2
 refine jH ?_
 simp only [↓aH,aJ,rE,↓reduceIte, aEk]
 refine bJ ?_
 simp only [↓aH,aJ,rE,↓reduceIte]
 refine aW (aFY H (by rw [s2.2 _ (by omega)]; exact c1) c2 (hl.same sS) hlen) ?_
 rintro _ Y ⟨rfl, hY⟩
 rw [hY]
 try simp only [↓aH,aJ,rE,↓reduceIte]
 by_cases ho : iT lo hi l
 ·rw [if_pos ho]
  refine aY (by simp only [↓aH,aJ,rE,↓reduceIte, Ad ho]) ?_
  refine cF ?_
  simp only [↓aH,aJ,rE,↓reduceIte]
  refine bD ?_
  simp only [↓aH,aJ,rE,↓reduceIte]
  exact sS
 ·rw [if_neg ho]
  refine aT (by simp only [↓aH,aJ,rE,↓reduceIte, Aa ho]) (aN ?_)
  try simp only [↓aH,aJ,rE,↓reduceIte]
  refine cF ?_
  simp only [↓aH,aJ,rE,↓reduceIte]
  refine bD ?_
  simp only [↓aH,aJ,rE,↓reduceIte]
  exact sS
def pF (S : St) (wb : Nat) (ps : Int) (n i p d l : AV) : Prop := S.h.get wb = some (.cells [.int .i64 ps, n, i, p, d, l] false 0) ∧ wb < S.nx
theorem pF.same {S S' : St} {wb : Nat} {ps : Int} {n i p d l : AV} (h : pF S wb ps n i p d l) (hs : Same S S') : pF S' wb ps n i p d l := ⟨(hs.2 _ h.2).trans h.1, Ae h.2 hs.1⟩
section
variable {S : St} {wb : Nat} {ps : Int} {n i p d l : AV} {ni : Nat} {cs : List AV} {x : cM}
theorem aE5 (H : Has fns) (hx : cL S cs x) : iM fns (.fn 173 [] []) [.ptr wb 0, .agg cs] S fun r S' => r = .int .i64 (if pO x then 3 else if iT 1 1000 x.weights then 2 else 0) ∧ Same S S' := by
 obtain ⟨a, b, c, rfl, hn, hw, hp⟩ := hx
 refine cV H.f173 (by simp) ?_
 simp only [↓aH,aJ,rE,↓reduceIte]
 refine cF ?_
 refine eQ (by simp only [↓aH,aJ,rE,↓reduceIte]; exact bK _) ?_
 intro S2 s2 n2 g3
 simp only [↓aH,aJ,rE,↓reduceIte]
 have hn2 := hn.same s2
 have hw2 := hw.same s2
 have hp2 := hp.same s2
 refine aD (aD (bN (Q := fun o A' X => o = .normal ∧ A'.inr = false ∧ X = S2 ∧ aC 3 A'.F = .ptr S.nx 0 ∧ aC 39 A'.F = .bool (decide (pO x))) (aP ?_) ?_))
 ·by_cases c0 : x.player ≠ 0
  ·rw [Ad (show pO x from .inl c0)]
   simp only [↓aH,aJ,rE,↓reduceIte, aA, aB, eY g3, fP g3, eV g3, fL g3, gI g3, hn2.len, hw2.len, hp2.len, Aj, Ad c0]
  by_cases c1 : x.info ≠ 0
  ·rw [Ad (show pO x from .inr (.inl c1))]
   simp only [↓aH,aJ,rE,↓reduceIte, aA, aB, eY g3, fP g3, eV g3, fL g3, gI g3, hn2.len, hw2.len, hp2.len, Aj, Aa c0, Ad c1]
  by_cases c2 : (0 : Int) < ((x.pay.length : Nat) : Int)
  ·rw [Ad (show pO x from .inr (.inr (.inl c2)))]
   simp only [↓aH,aJ,rE,↓reduceIte, aA, aB, eY g3, fP g3, eV g3, fL g3, gI g3, hn2.len, hw2.len, hp2.len, Aj, Aa c0, Aa c1, Ad c2]
  by_cases c3 : ((x.next.length : Nat) : Int) < 1
  ·rw [Ad (show pO x from .inr (.inr (.inr (.inl c3))))]
   simp only [↓aH,aJ,rE,↓reduceIte, aA, aB, eY g3, fP g3, eV g3, fL g3, gI g3, hn2.len, hw2.len, hp2.len, Aj, Aa c0, Aa c1, Aa c2, Ad c3]
  by_cases c4 : (60 : Int) < ((x.next.length : Nat) : Int)
  ·rw [Ad (show pO x from .inr (.inr (.inr (.inr (.inl c4)))))]
   simp only [↓aH,aJ,rE,↓reduceIte, aA, aB, eY g3, fP g3, eV g3, fL g3, gI g3, hn2.len, hw2.len, hp2.len, Aj, Aa c0, Aa c1, Aa c2, Aa c3, Ad c4]
  by_cases c5 : ((x.weights.length : Nat) : Int) ≠ ((x.next.length : Nat) : Int)
  ·rw [Ad (show pO x from .inr (.inr (.inr (.inr (.inr (c5))))))]
   simp only [↓aH,aJ,rE,↓reduceIte, aA, aB, eY g3, fP g3, eV g3, fL g3, gI g3, hn2.len, hw2.len, hp2.len, Aj, Aa c0, Aa c1, Aa c2, Aa c3, Aa c4, Ad c5]
  rw [Aa (show ¬ pO x by rintro (h0 | h1 | h2 | h3 | h4 | h5) <;> first | exact c0 h0 | exact c1 h1 | exact c2 h2 | exact c3 h3 | exact c4 h4 | exact c5 h5)]
  simp only [↓aH,aJ,rE,↓reduceIte, aA, aB, eY g3, fP g3, eV g3, fL g3, gI g3, hn2.len, hw2.len, hp2.len, Aj, Aa c0, Aa c1, Aa c2, Aa c3, Aa c4, Aa c5]
 rintro o ⟨F, inr⟩ X ⟨rfl, q0, hX, p3, pb⟩
 simp only at q0 p3 pb
 subst q0
 rw [hX]
 have sX := s2
 try simp only [↓aH,aJ,rE,↓reduceIte]
 by_cases bad : pO x
 ·rw [if_pos bad]
  refine aY (by simp only [↓aH,aJ,rE,↓reduceIte, pb, Ad bad]) ?_
  refine cF ?_
  simp only [↓aH,aJ,rE,↓reduceIte]
  refine bD ?_
  simp only [↓aH,aJ,rE,↓reduceIte]
  exact sX
 rw [if_neg bad]
 refine aT (by simp only [↓aH,aJ,rE,↓reduceIte, pb, Aa bad]) (aN ?_)
 try simp only [↓aH,aJ,rE,↓reduceIte]
 have hlen : x.weights.length ≤ 60 := by unfold pO at bad; omega
 refine cF ?_
 simp only [↓aH,aJ,rE,↓reduceIte, p3, aA, aB, fL g3]
 refine bJ ?_
 simp only [↓aH,aJ,rE,↓reduceIte]
 refine aW (nS H hw2 (by omega)) ?_
 rintro _ Y ⟨rfl, hY⟩
 try simp only [↓aH,aJ,rE,↓reduceIte]
 refine bD ?_
 simp only [↓aH,aJ,rE,↓reduceIte]
 exact s2.trans hY
theorem aHG (H : Has fns) (hx : cL S cs x) (hW : pF S wb ps n i p d l) (hps : 1 ≤ ps ∧ ps ≤ 4) (hi : lW i = some (.int .i64 ((ni : Nat) : Int))) (hni : ni ≤ 1000) (hsi : cO i i = true) : iM fns (.fn 174 [] []) [.ptr wb 0, .agg cs] S fun r S' => r = .int .i64 (if tN x then 3 else if x.player < 0 ∨ ps - 1 < x.player ∨ x.info < 0 ∨ (ni : Int) - 1 < x.info then 2 else 0) ∧ Same S S' := by
 obtain ⟨a, b, c, rfl, hn, hw, hp⟩ := hx
 refine cV H.f174 (by simp) ?_
 simp only [↓aH,aJ,rE,↓reduceIte]
 refine cF ?_
 refine eQ (by simp only [↓aH,aJ,rE,↓reduceIte]; exact bK _) ?_
 intro S2 s2 n2 g3
 simp only [↓aH,aJ,rE,↓reduceIte]
 have hn2 := hn.same s2
 have hw2 := hw.same s2
 have hp2 := hp.same s2
 have hW2 := hW.same s2
 refine aD (aD (bN (Q := fun o A' X => o = .normal ∧ A'.inr = false ∧ X = S2 ∧ aC 0 A'.F = .ptr wb 0 ∧ aC 3 A'.F = .ptr S.nx 0 ∧ aC 27 A'.F = .bool (decide (tN x))) (aP ?_) ?_))
 ·by_cases c0 : (0 : Int) < ((x.weights.length : Nat) : Int)
  ·rw [Ad (show tN x from .inl c0)]
   simp only [↓aH,aJ,rE,↓reduceIte, aA, aB, eY g3, fP g3, eV g3, fL g3, gI g3, hn2.len, hw2.len, hp2.len, Aj, Ad c0]
  by_cases c1 : (0 : Int) < ((x.pay.length : Nat) : Int)
  ·rw [Ad (show tN x from .inr (.inl c1))]
   simp only [↓aH,aJ,rE,↓reduceIte, aA, aB, eY g3, fP g3, eV g3, fL g3, gI g3, hn2.len, hw2.len, hp2.len, Aj, Aa c0, Ad c1]
  by_cases c2 : ((x.next.length : Nat) : Int) < 1
  ·rw [Ad (show tN x from .inr (.inr (.inl c2)))]
   simp only [↓aH,aJ,rE,↓reduceIte, aA, aB, eY g3, fP g3, eV g3, fL g3, gI g3, hn2.len, hw2.len, hp2.len, Aj, Aa c0, Aa c1, Ad c2]
  by_cases c3 : (10 : Int) < ((x.next.length : Nat) : Int)
  ·rw [Ad (show tN x from .inr (.inr (.inr (c3))))]
   simp only [↓aH,aJ,rE,↓reduceIte, aA, aB, eY g3, fP g3, eV g3, fL g3, gI g3, hn2.len, hw2.len, hp2.len, Aj, Aa c0, Aa c1, Aa c2, Ad c3]
  rw [Aa (show ¬ tN x by rintro (h0 | h1 | h2 | h3) <;> first | exact c0 h0 | exact c1 h1 | exact c2 h2 | exact c3 h3)]
  simp only [↓aH,aJ,rE,↓reduceIte, aA, aB, eY g3, fP g3, eV g3, fL g3, gI g3, hn2.len, hw2.len, hp2.len, Aj, Aa c0, Aa c1, Aa c2, Aa c3]
 rintro o ⟨F, inr⟩ X ⟨rfl, q0, hX, p0, p3, pb⟩
 simp only at q0 p0 p3 pb
 subst q0
 rw [hX]
 have sX := s2
 try simp only [↓aH,aJ,rE,↓reduceIte]
 by_cases bad : tN x
 ·rw [if_pos bad]
  refine aY (by simp only [↓aH,aJ,rE,↓reduceIte, pb, Ad bad]) ?_
  refine cF ?_
  simp only [↓aH,aJ,rE,↓reduceIte]
  refine bD ?_
  simp only [↓aH,aJ,rE,↓reduceIte]
  exact sX
 rw [if_neg bad]
 refine aT (by simp only [↓aH,aJ,rE,↓reduceIte, pb, Aa bad]) (aN ?_)
 try simp only [↓aH,aJ,rE,↓reduceIte]
 have w1 : IntKind.i64.wrap (ps - 1) = ps - 1 := wrap_i64 (by omega) (by omega)
 have w2 : IntKind.i64.wrap ((ni : Int) - 1) = (ni : Int) - 1 := wrap_i64 (by omega) (by omega)
 have lt3 : S.nx < S2.nx := by omega
 refine aD (aD (nJ (fun _ => False) ?_))
 intro S3 s3 h3 n3
 simp only [Az, Bz, rA] at n3
 simp only [↓sU,sD,rE,↓reduceIte,rA, p0, p3, aS, bH, aR, aA, aO, aB, fD hW2.1, eY g3, w1, hW2.2, lt3, Ax]
 rw [mI (k := .i64) (n := x.player) (by simp only [↓sU,sD,rE,↓reduceIte,rA])]
 simp only [↓sU,sD,rE,↓reduceIte,rA]
 refine aBn (by decide) rfl ?_
 intro S4 s4 n4 c4
 simp only [↓sU,sD,rE,↓reduceIte,rA]
 have s34 : Same S2 S4 := s4.same s3 (by omega)
 refine aW (nS H (aIv (by omega) c4) (by simp)) ?_
 rintro _ Y ⟨rfl, hY⟩
 refine ⟨hY, ?_⟩
 simp only [↓sU,sD,rE,↓reduceIte,rA, aBH]
 have sY := s2.trans (s34.trans hY)
 refine cF ?_
 simp only [↓sU,sD,rE,↓reduceIte,rA]
 by_cases h1 : x.player < 0 ∨ ps - 1 < x.player
 ·rw [if_pos (show x.player < 0 ∨ ps - 1 < x.player ∨ x.info < 0 ∨ (ni : Int) - 1 < x.info by omega)]
  refine aY (by simp only [↓sU,sD,rE,↓reduceIte,rA, if_pos h1]; rfl) ?_
  refine cF ?_
  simp only [↓sU,sD,rE,↓reduceIte,rA, if_pos h1]
  refine bD ?_
  simp only [↓sU,sD,rE,↓reduceIte,rA]
  exact sY
 refine aT (by simp only [↓sU,sD,rE,↓reduceIte,rA, if_neg h1]; rfl) (aN ?_)
 try simp only [↓sU,sD,rE,↓reduceIte,rA]
 have hWY := hW.same sY
 have g3Y : Y.h.get S.nx = some (.cells [.int .i64 x.kind, .int .i64 x.player, .int .i64 x.info, a, b, c] false 0) := by rw [(s34.trans hY).2 _ lt3]; exact g3
 have lt3Y : S.nx < Y.nx := Ae lt3 (s34.trans hY).1
 refine aD (nJ (fun _ => False) ?_)
 intro S5 s5 h5 n5
 simp only [Az, Bz, rA] at n5
 simp only [↓sU,sD,rE,↓reduceIte,rA, p0, p3, aS, bH, aR, aA, aO, aB, fP hWY.1, hi, hsi, fP g3Y, w2, hWY.2, lt3Y, Ax]
 rw [mI (k := .i64) (n := x.info) (by simp only [↓sU,sD,rE,↓reduceIte,rA])]
 simp only [↓sU,sD,rE,↓reduceIte,rA]
 refine aBn (by decide) rfl ?_
 intro S6 s6 n6 c6
 simp only [↓sU,sD,rE,↓reduceIte,rA]
 have s56 : Same Y S6 := s6.same s5 (by omega)
 refine aW (nS H (aIv (by omega) c6) (by simp)) ?_
 rintro _ Z ⟨rfl, hZ⟩
 refine ⟨hZ, ?_⟩
 simp only [↓sU,sD,rE,↓reduceIte,rA, aBH]
 refine bD ?_
 simp only [↓sU,sD,rE,↓reduceIte,rA]
 refine ⟨?_, sY.trans (s56.trans hZ)⟩
 by_cases h2 : x.info < 0 ∨ (ni : Int) - 1 < x.info
 ·rw [if_pos h2, if_pos (by omega)]
 ·rw [if_neg h2, if_neg (by omega)]
theorem aH8 (H : Has fns) (hx : cL S cs x) (hW : pF S wb ps n i p d l) (hps : 1 ≤ ps ∧ ps ≤ 4) : iM fns (.fn 175 [] []) [.ptr wb 0, .agg cs] S fun r S' => r = .int .i64 (if qV ps x then 3 else if iT (-1000000) 1000000 x.pay then 2 else 0) ∧ Same S S' := by
 obtain ⟨a, b, c, rfl, hn, hw, hp⟩ := hx
 refine cV H.f175 (by simp) ?_
 simp only [↓aH,aJ,rE,↓reduceIte]
 refine cF ?_
 refine eQ (by simp only [↓aH,aJ,rE,↓reduceIte]; exact bK _) ?_
 intro S2 s2 n2 g3
 simp only [↓aH,aJ,rE,↓reduceIte]
 have hn2 := hn.same s2
 have hw2 := hw.same s2
 have hp2 := hp.same s2
 have hW2 := hW.same s2
 have sn := bO.self hn2
 have sw := bO.self hw2
 have sp := bO.self hp2
 refine aD (aD (bN (Q := fun o A' X => o = .normal ∧ A'.inr = false ∧ Same S2 X ∧ aC 3 A'.F = .ptr S.nx 0 ∧ aC 35 A'.F = .bool (decide (qV ps x))) (gE ?_) ?_))
 ·have sX := Same.nx S2 31
  by_cases c0 : x.player ≠ 0
  ·rw [Ad (show qV ps x from .inl c0)]
   simp only [↓aH,aJ,rE,↓reduceIte, aA, aB, eY g3, fP g3, eV g3, fL g3, gI g3, hn2.len, hw2.len, hp2.len, Aj, aS, bH, aR, aO, gD, fD hW2.1, sn, sw, sp, Ad c0]
   exact Same.nx S2 _
  by_cases c1 : x.info ≠ 0
  ·rw [Ad (show qV ps x from .inr (.inl c1))]
   simp only [↓aH,aJ,rE,↓reduceIte, aA, aB, eY g3, fP g3, eV g3, fL g3, gI g3, hn2.len, hw2.len, hp2.len, Aj, aS, bH, aR, aO, gD, fD hW2.1, sn, sw, sp, Aa c0, Ad c1]
   exact Same.nx S2 _
  by_cases c2 : (0 : Int) < ((x.next.length : Nat) : Int)
  ·rw [Ad (show qV ps x from .inr (.inr (.inl c2)))]
   simp only [↓aH,aJ,rE,↓reduceIte, aA, aB, eY g3, fP g3, eV g3, fL g3, gI g3, hn2.len, hw2.len, hp2.len, Aj, aS, bH, aR, aO, gD, fD hW2.1, sn, sw, sp, Aa c0, Aa c1, Ad c2]
   exact Same.nx S2 _
  by_cases c3 : (0 : Int) < ((x.weights.length : Nat) : Int)
  ·rw [Ad (show qV ps x from .inr (.inr (.inr (.inl c3))))]
   simp only [↓aH,aJ,rE,↓reduceIte, aA, aB, eY g3, fP g3, eV g3, fL g3, gI g3, hn2.len, hw2.len, hp2.len, Aj, aS, bH, aR, aO, gD, fD hW2.1, sn, sw, sp, Aa c0, Aa c1, Aa c2, Ad c3]
   exact Same.nx S2 _
  by_cases c4 : ((x.pay.length : Nat) : Int) ≠ ps
  ·rw [Ad (show qV ps x from .inr (.inr (.inr (.inr (c4)))))]
   simp only [↓aH,aJ,rE,↓reduceIte, aA, aB, eY g3, fP g3, eV g3, fL g3, gI g3, hn2.len, hw2.len, hp2.len, Aj, aS, bH, aR, aO, gD, fD hW2.1, sn, sw, sp, Aa c0, Aa c1, Aa c2, Aa c3, Ad c4]
   exact Same.nx S2 _
  rw [Aa (show ¬ qV ps x by rintro (h0 | h1 | h2 | h3 | h4) <;> first | exact c0 h0 | exact c1 h1 | exact c2 h2 | exact c3 h3 | exact c4 h4)]
  simp only [↓aH,aJ,rE,↓reduceIte, aA, aB, eY g3, fP g3, eV g3, fL g3, gI g3, hn2.len, hw2.len, hp2.len, Aj, aS, bH, aR, aO, gD, fD hW2.1, sn, sw, sp, Aa c0, Aa c1, Aa c2, Aa c3, Aa c4]
  exact Same.nx S2 _
 rintro o ⟨F, inr⟩ X ⟨rfl, q0, hX, p3, pb⟩
 simp only at q0 p3 pb
 subst q0
 have sX := s2.trans hX
 have g3X : X.h.get S.nx = some (.cells [.int .i64 x.kind, .int .i64 x.player, .int .i64 x.info, a, b, c] false 0) := by rw [hX.2 _ (by omega)]; exact g3
 try simp only [↓aH,aJ,rE,↓reduceIte]
 by_cases bad : qV ps x
 ·rw [if_pos bad]
  refine aY (by simp only [↓aH,aJ,rE,↓reduceIte, pb, Ad bad]) ?_
  refine cF ?_
  simp only [↓aH,aJ,rE,↓reduceIte]
  refine bD ?_
  simp only [↓aH,aJ,rE,↓reduceIte]
  exact sX
 rw [if_neg bad]
 refine aT (by simp only [↓aH,aJ,rE,↓reduceIte, pb, Aa bad]) (aN ?_)
 try simp only [↓aH,aJ,rE,↓reduceIte]
 have hlen : x.pay.length ≤ 60 := by unfold qV at bad; omega
 have hneg : Int.negSucc 999999 = -1000000 := rfl
 refine cF ?_
 simp only [↓aH,aJ,rE,↓reduceIte, p3, aA, aB, gI g3X]
 refine bJ ?_
 simp only [↓aH,aJ,rE,↓reduceIte, hneg]
 refine aW (nS H (hp2.same hX) (by omega)) ?_
 rintro _ Y ⟨rfl, hY⟩
 try simp only [↓aH,aJ,rE,↓reduceIte]
 refine bD ?_
 simp only [↓aH,aJ,rE,↓reduceIte]
 exact sX.trans hY
end
section
variable {S : St} {wb : Nat} {ps : Int} {n i p d l : AV} {ni : Nat} {cs : List AV} {x : cM}
theorem aHe (H : Has fns) (hx : cL S cs x) (hW : pF S wb ps n i p d l) (hps : 1 ≤ ps ∧ ps ≤ 4) (hi : lW i = some (.int .i64 ((ni : Nat) : Int))) (hni : ni ≤ 1000) (hsi : cO i i = true) : iM fns (.fn 162 [] []) [.ptr wb 0, .agg cs] S fun r S' => r = .int .i64 (iG ps ni x) ∧ Same S S' := by
 obtain ⟨a, b, c, rfl, hn, hw, hp⟩ := id hx
 refine cV H.f162 (by simp) ?_
 simp only [↓aH,aJ,rE,↓reduceIte]
 refine cF ?_
 refine eQ (by simp only [↓aH,aJ,rE,↓reduceIte]; exact bK _) ?_
 intro S1 s1 n1 g3
 simp only [↓aH,aJ,rE,↓reduceIte]
 have hbd : ∀ (F : Fr) (h : T AB), gR (.build [.nilfn, .nilfn, .nilfn, .nilfn] [(1, 1, .c (.fn 173 [] [])), (2, 1, .c (.fn 174 [] [])), (3, 1, .c (.fn 175 [] []))]) F h = some (.agg [.nilfn, .fn 173 [] [], .fn 174 [] [], .fn 175 [] []]) := fun _ _ => rfl
 refine cF ?_
 simp only [↓aH,aJ,rE,↓reduceIte, hbd]
 refine dC ?_
 intro S2 s2 n2 c2
 refine dU (b := S1.nx) (by simp only [↓aH,aJ,rE,↓reduceIte]) (by simp only [↓aH,aJ,rE,↓reduceIte]; exact bK _) c2 rfl rfl ?_
 intro S3 s3 n3 c3
 simp only [↓aH,aJ,rE,↓reduceIte]
 have s13 : Same S1 S3 := s3.same s2 (Af _)
 have sS := s1.trans s13
 have g3 : S3.h.get S.nx = some (.cells [.int .i64 x.kind, .int .i64 x.player, .int .i64 x.info, a, b, c] false 0) := by rw [s13.2 _ (by omega)]; exact g3
 have lt3 : S.nx < S3.nx := by omega
 have lt5 : S1.nx < S3.nx := by omega
 have hx3 : cL S3 [.int .i64 x.kind, .int .i64 x.player, .int .i64 x.info, a, b, c] x := cB hx sS
 have hW3 := hW.same sS
 have sl := aCw (dO .i64 x.kind) (dO .i64 x.player) (dO .i64 x.info) (bO.self hn) (bO.self hw) (bO.self hp)
 unfold iG
 refine aD (aD (bN (Q := fun o A' X => o = .normal ∧ A'.inr = false ∧ X = S3 ∧ aC 0 A'.F = .ptr wb 0 ∧ aC 3 A'.F = .ptr S.nx 0 ∧ aC 5 A'.F = .ptr S1.nx 0 ∧ aC 14 A'.F = .bool (decide (x.kind < 1 ∨ 3 < x.kind))) (aP ?_) ?_))
 ·by_cases h1 : x.kind < 1
  ·rw [Ad (show x.kind < 1 ∨ 3 < x.kind from .inl h1)]
   simp only [↓aH,aJ,rE,↓reduceIte, aA, aB, fD g3, Ad h1]
  ·by_cases h2 : 3 < x.kind
   ·rw [Ad (show x.kind < 1 ∨ 3 < x.kind from .inr h2)]
    simp only [↓aH,aJ,rE,↓reduceIte, aA, aB, fD g3, Aa h1, Ad h2]
   ·rw [Aa (show ¬ (x.kind < 1 ∨ 3 < x.kind) by omega)]
    simp only [↓aH,aJ,rE,↓reduceIte, aA, aB, fD g3, Aa h1, Aa h2]
 rintro o ⟨F, inr⟩ X ⟨rfl, q0, hX, p0, p3, p5, pb⟩
 simp only at q0 p0 p3 p5 pb
 subst q0
 rw [hX]
 try simp only [↓aH,aJ,rE,↓reduceIte]
 by_cases bad : x.kind < 1 ∨ 3 < x.kind
 ·rw [if_neg (by omega), if_neg (by omega), if_neg (by omega)]
  refine aY (by simp only [↓aH,aJ,rE,↓reduceIte, pb, Ad bad]) ?_
  refine cF ?_
  simp only [↓aH,aJ,rE,↓reduceIte]
  refine bD ?_
  simp only [↓aH,aJ,rE,↓reduceIte]
  exact sS
 refine aT (by simp only [↓aH,aJ,rE,↓reduceIte, pb, Aa bad]) (aN ?_)
 try simp only [↓aH,aJ,rE,↓reduceIte]
 have hld : ∀ j y, [AV.nilfn, .fn 173 [] [], .fn 174 [] [], .fn 175 [] []][j]? = some y → fH (.ptr S1.nx j) false 1 S3.h = some y := fun j y hy => by have := ldc (j := j) c3 hy; rw [Am] at this; exact this
 have n1' : eX (.int .i64 1) = some 1 := rfl
 have n2' : eX (.int .i64 2) = some 2 := rfl
 have n3' : eX (.int .i64 3) = some 3 := rfl
 have i1 : eT (.arr 4 1) (.ptr S1.nx 0) 1 = some (.ptr S1.nx 1) := rfl
 have i2 : eT (.arr 4 1) (.ptr S1.nx 0) 2 = some (.ptr S1.nx 2) := rfl
 have i3 : eT (.arr 4 1) (.ptr S1.nx 0) 3 = some (.ptr S1.nx 3) := rfl
 have l1 := hld 1 _ rfl
 have l2 := hld 2 _ rfl
 have l3 := hld 3 _ rfl
 have f1 : cO (.fn 173 [] []) (.fn 173 [] []) = true := rfl
 have f2 : cO (.fn 174 [] []) (.fn 174 [] []) = true := rfl
 have f3 : cO (.fn 175 [] []) (.fn 175 [] []) = true := rfl
 have g3' := ldN g3
 refine aD (mN (fun _ => False) ?_)
 intro S4 s4
 by_cases k1 : x.kind = 1
 ·rw [if_pos k1]
  rw [k1] at g3 g3' sl hx3
  simp only [↓sU,sD,rE,↓reduceIte,rA, p0, p3, p5, aA, aO, aB, fD g3, n1', i1, l1, f1, g3', sl, lt3, lt5, Ax]
  refine iF rfl ?_
  simp only [↓sU,sD,rE,↓reduceIte,rA]
  refine aW (aE5 H (by have := cB hx (sS.trans s4); rw [k1] at this; exact this)) ?_
  rintro _ Y ⟨rfl, hY⟩
  refine ⟨hY, ?_⟩
  try simp only [↓sU,sD,rE,↓reduceIte,rA]
  refine bD ?_
  simp only [↓sU,sD,rE,↓reduceIte,rA]
  exact sS.trans (s4.trans hY)
 by_cases k2 : x.kind = 2
 ·rw [if_neg k1, if_pos k2]
  rw [k2] at g3 g3' sl
  simp only [↓sU,sD,rE,↓reduceIte,rA, p0, p3, p5, aA, aO, aB, fD g3, n2', i2, l2, f2, g3', sl, lt3, lt5, Ax]
  refine iF rfl ?_
  simp only [↓sU,sD,rE,↓reduceIte,rA]
  refine aW (aHG H (by have := cB hx (sS.trans s4); rw [k2] at this; exact this) (hW3.same s4) hps hi hni hsi) ?_
  rintro _ Y ⟨rfl, hY⟩
  refine ⟨hY, ?_⟩
  try simp only [↓sU,sD,rE,↓reduceIte,rA]
  refine bD ?_
  simp only [↓sU,sD,rE,↓reduceIte,rA]
  exact sS.trans (s4.trans hY)
 have k3 : x.kind = 3 := by omega
 rw [if_neg k1, if_neg k2, if_pos k3]
 rw [k3] at g3 g3' sl
 simp only [↓sU,sD,rE,↓reduceIte,rA, p0, p3, p5, aA, aO, aB, fD g3, n3', i3, l3, f3, g3', sl, lt3, lt5, Ax]
 refine iF rfl ?_
 simp only [↓sU,sD,rE,↓reduceIte,rA]
 refine aW (aH8 H (by have := cB hx (sS.trans s4); rw [k3] at this; exact this) (hW3.same s4) hps) ?_
 rintro _ Y ⟨rfl, hY⟩
 refine ⟨hY, ?_⟩
 try simp only [↓sU,sD,rE,↓reduceIte,rA]
 refine bD ?_
 simp only [↓sU,sD,rE,↓reduceIte,rA]
 exact sS.trans (s4.trans hY)
end
abbrev cE := Int × Int × Int
def fI (rec : Nat → Option (List cE)) : List Int → Nat → Option (List cE)
 | [], _ => some []
 | c :: l, r => if c = (r : Int) then (rec r).bind fun L1 => (fI rec l (r + L1.length)).map (L1 ++ ·) else none
def eS (N : Nat) (nx : Nat → List Int) : Nat → Nat → Int → Int → Option (List cE)
 | 0, _, _, _ => none
 | f + 1, at_, p, d => if at_ < N then (fI (fun r => eS N nx f r at_ (d + 1)) (nx at_) (at_ + 1)).map fun L => (p, d, ((at_ + L.length : Nat) : Int)) :: L else none
def aAe (m : Int) (L : List cE) : Int := L.foldl (fun m t => mx m t.2.1) m
theorem aCC (m : Int) (t : cE) (L : List cE) : aAe m (t :: L) = aAe (mx m t.2.1) L := rfl
def dN (g : bF) (i : Nat) : List Int := ((g.nodes[i]?).map (·.next)).getD []
theorem uV {g : bF} {i : Nat} {x : cM} (h : g.nodes[i]? = some x) : dN g i = x.next := by unfold dN; rw [h]; rfl
theorem aCs {rec : Nat → Option (List cE)} {N : Nat} (hr : ∀ r L, rec r = some L → r + L.length ≤ N ∧ 0 < L.length) : ∀ {l : List Int} {r : Nat} {L : List cE}, r ≤ N → fI rec l r = some L → r + L.length ≤ N
 | [], r, L, h, hk => by simp only [fI, Ar] at hk; subst hk; simpa using h
 | c :: l, r, L, h, hk => by
  simp only [fI] at hk
  split at hk
  ·obtain ⟨L1, h1, h2⟩ := Cc.1 hk
   obtain ⟨L2, h3, rfl⟩ := Aw.1 h2
   have := aCs hr (hr r L1 h1).1 h3
   rw [Ah]; omega
  ·cases hk
theorem xO {N : Nat} {nx : Nat → List Int} : ∀ {f at_ : Nat} {p d : Int} {L : List cE}, eS N nx f at_ p d = some L → at_ + L.length ≤ N ∧ 0 < L.length
 | 0, at_, p, d, L, h => by cases h
 | f + 1, at_, p, d, L, h => by
  simp only [eS] at h
  split at h
  ·rename_i hlt
   obtain ⟨L', h1, rfl⟩ := Aw.1 h
   have := aCs (N := N) (fun r L hr => xO hr) (show at_ + 1 ≤ N by omega) h1
   rw [Az]; omega
  ·cases h
theorem aM.tail {k : Nat} {α : Type} {E : St → List AV → α → Prop} {S : St} {v : AV} {a : α} {l : List α} (h : aM k E S v (a :: l)) : ∃ v', (∀ (F : Fr) (x : cK), eX (x.val F) = some 1 → qI (.slice k) v (some x) none none F = some v') ∧ aM k E S v' l := by
 rcases h with ⟨h0, _⟩ | ⟨b, off, cap, o, cs, rfl, hc, hb, hcs, hel⟩
 ·cases h0
 ·rw [Az] at hc
  have e1 : Nat.ble cap cap = true := Ak (Af _)
  have e2 : Nat.ble (l.length + 1) cap = true := Ak hc
  have e3 : Nat.ble 1 (l.length + 1) = true := Ak (by omega)
  by_cases h1 : cap = 1
  ·have hl : l = [] := Bo.1 (by omega)
   subst hl; subst h1
   have e4 : Nat.beq 1 1 = true := rfl
   refine ⟨bQ o .emp (.sl b off 0 0 false), fun F x hx => ?_, ?_⟩
   ·simp only [qI, aES, kQ, iW, aE, hx, Az, Bz]
    cases o <;> rfl
   ·cases o with
    | true => exact .inl ⟨rfl, .inr rfl⟩
    | false => exact .inr ⟨b, off, 0, false, cs, rfl, Af _, hb, hcs, fun i a hi => by simp at hi⟩
  ·have e4 : Nat.beq cap 1 = false := by rw [Cb]; intro h; rw [Bd] at h; omega
   refine ⟨.sl b (off + 1 * k) (l.length + 1 - 1) (cap - 1) o, fun F x hx => ?_, .inr ⟨b, off + 1 * k, cap - 1, o, cs, by simp, by omega, hb, hcs, fun i a' hi => ?_⟩⟩
   ·simp only [qI, aES, kQ, iW, aE, hx, Az, e1, e2, e3, aF, e4, aL, Option.isNone_none]
    cases o <;> rfl
   ·obtain ⟨e, h1, h2, h3⟩ := hel (i + 1) a' (by simpa using hi)
    refine ⟨e, h1, fun j x hj => ?_, h3⟩
    have := h2 j x hj
    rw [show off + 1 * k + i * k + j = off + (i + 1) * k + j by rw [Dq]; omega]
    exact this
theorem aDG (a b : Int) : lM true [.int .i64 a, .int .i64 b] = some (.int .i64 (mx a b)) := by rw [aJV, aLW, aMa]
def bB (l : List Int) : List AV := l.map (AV.int .i64)
theorem aBd (l : List Int) : (bB l).length = l.length := by simp [bB]
theorem qY {S S' : St} (h : Same S S') {b p n : Nat} {agg : Bool} (hb : b < S.nx) : fH (.ptr b p) agg n S'.h = fH (.ptr b p) agg n S.h := by
 have e := qF h hb
 simp only [fH, oD, tV, mS, e]
theorem uA {S : St} {b p : Nat} {w : Int} {l : List Int} {o : Bool} {sz : Nat} (h : S.h.get b = some (.cells (bB l) o sz)) (hp : p < l.length) : nQ (.ptr b p) 1 [.int .i64 w] S = some (.undef, ⟨S.h.set b (some (.cells (bB (l.set p w)) o sz)), S.nx⟩) := by
 have hput : put (bB l) p [AV.int .i64 w] = some (bB (l.set p w)) := by
  rw [put_eq, if_pos (by rw [aBd]; simp; omega)]
  congr 1
  unfold bB
  rw [List.map_set, List.set_eq_take_append_cons_drop, if_pos (by simp; omega)]
  simp
 simp only [nQ, oP, h, aE, yQ, hput]
 rfl
theorem uI {S : St} {b N sz : Nat} {l : List Int} {o : Bool} (h : S.h.get b = some (.cells (bB l) o sz)) (hb : b < S.nx) (hl : l.length = N) : bO .i64 S (.sl b 0 N N false) l := by
 subst hl
 refine .inr ⟨b, 0, l.length, false, bB l, rfl, Af _, hb, by unfold cP; rw [h]; rfl, fun i x hi => ?_⟩
 rw [Am]
 unfold bB
 rw [Bc, hi]
 rfl
theorem fV {b N i : Nat} {o : Bool} (hi : i < N) : eT (.slice 1) (.sl b 0 N N o) i = some (.ptr b i) := ia8 hi
theorem xQ {W : Nat → Prop} {h0 : T AB} {base m i : Nat} {l : List AO} {F : Fr} {S : St} {last : Option Nat} {Q : Fr → St → List gL → Prop} {x v : cK} {b p sz : Nat} {w : Int} {P : List Int} {o : Bool} (h : jX last m = true) (hx : x.val F = .ptr b p) (hv : v.val F = .int .i64 w) (hb : S.h.get b = some (.cells (bB P) o sz)) (hp : p < P.length) (hW : W b)
  (hr : ∀ S1, cU b S S1 → S1.nx = S.nx → S1.h.get b = some (.cells (bB (P.set p w)) o sz) → fJ fns W h0 base l (i + 1) F S1 [] (some i) Q) : fJ fns W h0 base (⟨none, .x (.st 1 x v), none, m⟩ :: l) i F S [] last Q := by
 have hS : cU b S ⟨S.h.set b (some (.cells (bB (P.set p w)) o sz)), S.nx⟩ := (cU.refl b S).put _
 refine tD (S1 := ⟨S.h.set b (some (.cells (bB (P.set p w)) o sz)), S.nx⟩) h ?_ ⟨Af _, fun c hc hw => ?_⟩ (hr _ hS rfl ?_)
 ·rw [hv, cT, aE, hx]; exact uA (S := S) hb hp
 ·simp only
  rw [T.get_set, if_neg (show ¬ c = b from fun e => hw (by rw [e]; exact hW))]; rfl
 ·simp only
  rw [T.get_set, if_pos rfl]
def sL (T : List cE) (a j : Nat) : Option cE := if a ≤ j then T[j - a]? else none
def gQ (sel : cE → Int) (P P' : List Int) (T : List cE) (a : Nat) : Prop := P'.length = P.length ∧ ∀ j, P'.getD j 0 = ((sL T a j).map sel).getD (P.getD j 0)
theorem gQ.nil (sel : cE → Int) (P : List Int) (a : Nat) : gQ sel P P [] a := ⟨rfl, fun j => by unfold sL; split <;> simp⟩
theorem aJ6 {T : List cE} {a j : Nat} {t : cE} (h : sL T a j = some t) : a ≤ j ∧ j < a + T.length := by
 unfold sL at h
 split at h
 ·have := (Ai.1 h).1
  omega
 ·cases h
theorem aHa {T : List cE} {a j : Nat} (h : j < a ∨ a + T.length ≤ j) : sL T a j = none := by
 unfold sL
 split
 ·exact Bl (by omega)
 ·rfl
theorem zM (T T' : List cE) (a j : Nat) : sL (T ++ T') a j = (sL T a j).or (sL T' (a + T.length) j) := by
 unfold sL
 by_cases h : a ≤ j
 ·rw [if_pos h, if_pos h, Dz]
  by_cases h1 : j - a < T.length
  ·rw [if_pos h1, if_neg (by omega), Ab h1]; rfl
  ·rw [if_neg h1, if_pos (by omega), Bl (l := T) (i := j - a) (by omega), show j - a - T.length = j - (a + T.length) by omega]; rfl
 ·rw [if_neg h, if_neg h, if_neg (by omega)]; rfl
theorem gQ.append {sel : cE → Int} {P P1 P2 : List Int} {T T' : List cE} {a : Nat} (h1 : gQ sel P P1 T a) (h2 : gQ sel P1 P2 T' (a + T.length)) : gQ sel P P2 (T ++ T') a := by
 refine ⟨h2.1.trans h1.1, fun j => ?_⟩
 rw [h2.2, h1.2, zM]
 cases hc : sL T a j with
 | none => rfl
 | some t =>
  have := aJ6 hc
  rw [aHa (by omega)]
  rfl
theorem fS {P : List Int} {i j : Nat} {v : Int} (hi : i < P.length) : (P.set i v).getD j 0 = if j = i then v else P.getD j 0 := by
 rw [Ac, Di]
 by_cases h : i = j
 ·subst h; rw [if_pos rfl, if_pos rfl, if_pos hi]; rfl
 ·rw [if_neg h, if_neg (Cr h), Ac]
theorem aER (t : cE) (a j : Nat) : sL [t] a j = if j = a then some t else none := by
 unfold sL
 by_cases h : j = a
 ·subst h; simp
 ·rw [if_neg h]
  split
  ·exact Bl (by simp; omega)
  ·rfl
theorem gQ.one {sel : cE → Int} {P : List Int} {t : cE} {a : Nat} {v : Int} (ha : a < P.length) (hv : sel t = v) : gQ sel P (P.set a v) [t] a := by
 refine ⟨Au .., fun j => ?_⟩
 rw [fS ha, aER]
 by_cases h : j = a
 ·rw [if_pos h, if_pos h, ← hv]; rfl
 ·rw [if_neg h, if_neg h]; rfl
theorem gQ.late {sel : cE → Int} {P P1 : List Int} {t : cE} {L : List cE} {a : Nat} {v : Int} (h : gQ sel P P1 L (a + 1)) (ha : a < P.length) (hv : sel t = v) : gQ sel P (P1.set a v) (t :: L) a := by
 refine ⟨by rw [Au]; exact h.1, fun j => ?_⟩
 rw [fS (by rw [h.1]; exact ha), h.2]
 have e : sL (t :: L) a j = (sL [t] a j).or (sL L (a + 1) j) := zM [t] L a j
 rw [e, aER]
 by_cases hj : j = a
 ·rw [if_pos hj, if_pos hj, ← hv]; rfl
 ·rw [if_neg hj, if_neg hj]; rfl
structure WK (S : St) (wb pb db lb N : Nat) (ps : Int) (nv iv : AV) (P D L : List Int) : Prop where
 w : pF S wb ps nv iv (.sl pb 0 N N false) (.sl db 0 N N false) (.sl lb 0 N N false)
 gp : S.h.get pb = some (.cells (bB P) false 0)
 gd : S.h.get db = some (.cells (bB D) false 0)
 gl : S.h.get lb = some (.cells (bB L) false 0)
 lp : P.length = N
 ld : D.length = N
 ll : L.length = N
 bp : pb < S.nx
 bd : db < S.nx
 bl : lb < S.nx
def nR (pb db lb : Nat) (S S' : St) : Prop := S.nx ≤ S'.nx ∧ ∀ c, c < S.nx → c ≠ pb → c ≠ db → c ≠ lb → S'.h.get c = S.h.get c
theorem nR.refl (pb db lb : Nat) (S : St) : nR pb db lb S S := ⟨Af _, fun _ _ _ _ _ => rfl⟩
theorem nR.trans {pb db lb : Nat} {S S' S'' : St} (h : nR pb db lb S S') (h' : nR pb db lb S' S'') : nR pb db lb S S'' := ⟨Al h.1 h'.1, fun c hc h1 h2 h3 => (h'.2 c (Ae hc h.1) h1 h2 h3).trans (h.2 c hc h1 h2 h3)⟩
theorem nR.same {pb db lb : Nat} {S0 S S' : St} (h0 : Same S0 S) (h : nR pb db lb S S') (h1 : S0.nx ≤ pb) (h2 : S0.nx ≤ db) (h3 : S0.nx ≤ lb) : Same S0 S' := ⟨Al h0.1 h.1, fun c hc => (h.2 c (Ae hc h0.1) (by omega) (by omega) (by omega)).trans (h0.2 c hc)⟩
def aMR (S0 S : St) (wb pb db lb : Nat) (ps : Int) (nv iv : AV) (g : bF) (P D L : List Int) (at_ : Nat) (o : Option (List cE)) (r : AV) (S' : St) : Prop :=
 nR pb db lb S S' ∧ ∃ P' D' L', WK S' wb pb db lb g.nodes.length ps nv iv P' D' L' ∧ match o with
 | some T => (∃ v, r = .tup [v, .bool true] ∧ aM 6 cL S0 v (g.nodes.drop (at_ + T.length))) ∧ gQ (·.1) P P' T at_ ∧ gQ (·.2.1) D D' T at_ ∧ gQ (·.2.2) L L' T at_
 | none => r = .tup [.nilsl, .bool false]
def aMv (S0 S2 : St) (wb pb db lb : Nat) (ps : Int) (nv iv a : AV) (g : bF) (P D L : List Int) (at_ : Nat) (d : Int) (rec : Nat → Option (List cE)) (ks : List Int) (k : Nat) (A : bT) (X : St) : Prop :=
 A.inr = false ∧ nR pb db lb S2 X ∧ ∃ (j : Nat) (T : List cE) (P' D' L' : List Int) (v : AV), j + k = ks.length ∧ at_ + 1 + T.length ≤ g.nodes.length ∧ fI rec ks (at_ + 1) = (fI rec (ks.drop j) (at_ + 1 + T.length)).map (T ++ ·) ∧
  WK X wb pb db lb g.nodes.length ps nv iv P' D' L' ∧ gQ (·.1) P P' T (at_ + 1) ∧ gQ (·.2.1) D D' T (at_ + 1) ∧ gQ (·.2.2) L L' T (at_ + 1) ∧ aM 6 cL S0 v (g.nodes.drop (at_ + 1 + T.length)) ∧
  aC 0 A.F = .ptr wb 0 ∧ aC 2 A.F = .int .i64 d ∧ aC 10 A.F = .int .i64 (at_ : Int) ∧ aC 11 A.F = v ∧ aC 46 A.F = a ∧ aC 47 A.F = .int .i64 ((ks.length : Nat) : Int) ∧ aC 48 A.F = .int .i64 (j : Int)
theorem aHp {S0 : St} {nv iv : AV} {g : bF} {wb pb db lb : Nat} {ps : Int} (H : Has fns) (hG : aM 6 cL S0 nv g.nodes) (hwb : S0.nx ≤ wb) (hpb : S0.nx ≤ pb) (hdb : S0.nx ≤ db) (hlb : S0.nx ≤ lb) (ne1 : pb ≠ db) (ne2 : pb ≠ lb) (ne3 : db ≠ lb) (ne4 : wb ≠ pb) (ne5 : wb ≠ db) (ne6 : wb ≠ lb) (hN : g.nodes.length ≤ 2000) (hlen : ∀ x ∈ g.nodes, x.next.length ≤ 1000) :
  ∀ (f : Nat) {S : St} {at_ : Nat} {p d : Int} {rv : AV} {P D L : List Int}, g.nodes.length + 1 - at_ ≤ f → 0 ≤ d → d ≤ at_ → at_ ≤ g.nodes.length → Same S0 S → WK S wb pb db lb g.nodes.length ps nv iv P D L → aM 6 cL S0 rv (g.nodes.drop at_) →
  iM fns (.fn 163 [] []) [.ptr wb 0, .int .i64 p, .int .i64 d, rv] S fun r S' => aMR S0 S wb pb db lb ps nv iv g P D L at_ (eS g.nodes.length (dN g) f at_ p d) r S' := by
 intro f
 induction f with
 | zero => intro S at_ p d rv P D L hf hd0 hd hat; omega
 | succ f ih =>
  intro S at_ p d rv P D L hf hd0 hd hat hS hK hrv
  have hrl := hrv.len
  rw [Cq] at hrl
  refine cV H.f163 (by simp) ?_
  simp only [↓sU,sD,rE,↓reduceIte,rA]
  refine cF ?_
  simp only [↓sU,sD,rE,↓reduceIte,rA]
  refine jH ?_
  simp only [↓sU,sD,rE,↓reduceIte,rA, hrl]
  by_cases hlt : at_ < g.nodes.length
  rotate_left
  ·refine aY (by simp only [↓sU,sD,rE,↓reduceIte,rA, Ad (show ((g.nodes.length - at_ : Nat) : Int) = 0 by omega)]) ?_
   refine cF ?_
   simp only [↓sU,sD,rE,↓reduceIte,rA]
   refine bD ?_
   simp only [↓sU,sD,rE,↓reduceIte,rA]
   simp only [eS, if_neg hlt]
   exact ⟨nR.refl _ _ _ _, P, D, L, hK, rfl⟩
  refine aT (by simp only [↓sU,sD,rE,↓reduceIte,rA, Aa (show ¬ ((g.nodes.length - at_ : Nat) : Int) = 0 by omega)]) (aN ?_)
  try simp only [↓sU,sD,rE,↓reduceIte,rA]
  obtain ⟨x, hx⟩ : ∃ x, g.nodes[at_]? = some x := ⟨_, Ab hlt⟩
  have hnx := uV hx
  have hxl := hlen x (Bx hx)
  have hnl := hG.len
  have hdrop : g.nodes.drop at_ = x :: g.nodes.drop (at_ + 1) := by
   rw [Cj hlt]
   congr 1
   rw [Ab hlt] at hx
   exact Bq hx
  rw [hdrop] at hrv
  have w1 : IntKind.i64.wrap (((g.nodes.length : Nat) : Int) - ((g.nodes.length - at_ : Nat) : Int)) = (at_ : Int) := by rw [wrap_i64 (by omega) (by omega)]; omega
  refine cF ?_
  simp only [↓sU,sD,rE,↓reduceIte,rA, aS, aR, aA, aB, eY hK.w.1, hnl, hrl, w1]
  have wlt := hK.w.2
  have hwn : ¬ (wb = pb ∨ wb = db) := by omega
  refine aD (mN (fun b => b = pb ∨ b = db) ?_)
  intro S1 s1
  have hia1 := fV (b := pb) (o := false) hlt
  have hia2 := fV (b := db) (o := false) hlt
  simp only [↓sU,sD,rE,↓reduceIte,rA, aS, bH, aR, aA, aO, aB, eV hK.w.1, fL hK.w.1, wlt, hwn, Ax, hia1, hia2]
  have l1 := s1.1
  have bp := hK.bp
  have bd := hK.bd
  have bl := hK.bl
  refine xQ (p := at_) (w := p) rfl (by simp only [↓sU,sD,rE,↓reduceIte,rA]) (by simp only [↓sU,sD,rE,↓reduceIte,rA]) (by rw [s1.2 _ hK.bp]; exact hK.gp) (by rw [hK.lp]; exact hlt) (.inl rfl) ?_
  intro S2 s2 n2 c2
  simp only [↓sU,sD,rE,↓reduceIte,rA, hia2]
  refine xQ (p := at_) (w := d) (show Nat.testBit 32767 13 = true by decide) (by simp only [↓sU,sD,rE,↓reduceIte,rA]) (by simp only [↓sU,sD,rE,↓reduceIte,rA]) (by rw [s2.2 _ (by omega) (Cr ne1), s1.2 _ hK.bd]; exact hK.gd) (by rw [hK.ld]; exact hlt) (.inr rfl) ?_
  intro S3 s3 n3 c3
  simp only [↓sU,sD,rE,↓reduceIte,rA]
  have b3 : nR pb db lb S S3 := ⟨by omega, fun c hc h1 h2 h3 => by rw [s3.2 _ (by omega) h2, s2.2 _ (by omega) h1, s1.2 _ hc]⟩
  have hS3 : Same S0 S3 := b3.same hS hpb hdb hlb
  have hK3 : WK S3 wb pb db lb g.nodes.length ps nv iv (P.set at_ p) (D.set at_ d) L := ⟨⟨by rw [b3.2 _ wlt ne4 ne5 ne6]; exact hK.w.1, Ae wlt b3.1⟩, by rw [s3.2 _ (by omega) ne1]; exact c2, c3, by rw [s3.2 _ (by omega) (Cr ne3), s2.2 _ (by omega) (Cr ne2), s1.2 _ hK.bl]; exact hK.gl, by rw [Au]; exact hK.lp, by rw [Au]; exact hK.ld, hK.ll, by omega, by omega, by omega⟩
  obtain ⟨rv', hslc, hrv'⟩ := aM.tail hrv
  have hsl1 : ∀ F : Fr, qI (.slice 6) rv (some (.c (.int .i64 1))) none none F = some rv' := fun F => hslc F _ rfl
  refine cF ?_
  simp only [↓sU,sD,rE,↓reduceIte,rA, hsl1]
  obtain ⟨e, b, q, hia, hb, he, ⟨a, bb, cc, rfl, ha, _, _⟩, _, hlf⟩ := aM.at hrv (by decide) (i := 0) rfl
  have hl3 := hlf 3 a rfl
  rw [← qY hS3 hb] at hl3
  refine jH ?_
  simp only [↓sU,sD,rE,↓reduceIte,rA, aDp, hia, aA, aB, hl3, ha.len, Aj]
  have hW : eS g.nodes.length (dN g) (f + 1) at_ p d = (fI (fun r => eS g.nodes.length (dN g) f r at_ (d + 1)) x.next (at_ + 1)).map fun L => (p, d, ((at_ + L.length : Nat) : Int)) :: L := by
   simp only [eS, if_pos hlt, hnx]
  rw [hW]
  refine bN (Q := fun o A' X => (o = .normal ∧ aMv S0 S3 wb pb db lb ps nv iv a g (P.set at_ p) (D.set at_ d) L at_ d (fun r => eS g.nodes.length (dN g) f r at_ (d + 1)) x.next 0 A' X) ∨ (o = .ret ∧ nR pb db lb S3 X ∧ fI (fun r => eS g.nodes.length (dN g) f r at_ (d + 1)) x.next (at_ + 1) = none ∧ aC 8 A'.F = .nilsl ∧ aC 9 A'.F = .bool false ∧ ∃ P' D' L', WK X wb pb db lb g.nodes.length ps nv iv P' D' L')) (aU (cI (aMv S0 S3 wb pb db lb ps nv iv a g (P.set at_ p) (D.set at_ d) L at_ d (fun r => eS g.nodes.length (dN g) f r at_ (d + 1)) x.next) ?_ x.next.length _ _ ⟨rfl, nR.refl _ _ _ _, 0, [], P.set at_ p, D.set at_ d, L, rv', by omega, by rw [Bz]; omega, by simp, hK3, gQ.nil _ _ _, gQ.nil _ _ _, gQ.nil _ _ _, hrv', by refine ⟨?_,?_,?_,?_,?_,?_,?_⟩<;>simp only [↓sU,sD,rE,↓reduceIte,rA]⟩)) ?_
  ·rintro k ⟨F, inr⟩ X ⟨q0, hX, j, T, P', D', L', v, hjk, hTN, hkid, hKX, rP, rD, rL, hv, p0, p2, p10, p11, p46, p47, p48⟩
   simp only at q0 p0 p2 p10 p11 p46 p47 p48
   subst q0
   have hSX : Same S0 X := hX.same hS3 hpb hdb hlb
   have haX := ha.same hSX
   have hvl := hv.len
   rw [Cq] at hvl
   refine cF ?_
   simp only [↓sU,sD,rE,↓reduceIte,rA, p47, p48]
   by_cases hj : j < x.next.length
   ·refine aD (aY (by simp only [↓sU,sD,rE,↓reduceIte,rA, Ad (show (j : Int) < ((x.next.length : Nat) : Int) by omega)]) (aN ?_))
    simp only [↓sU,sD,rE,↓reduceIte,rA]
    have hias := haX.iaddr hj
    have hlds := haX.ld hj
    have hdr : x.next.drop j = x.next[j] :: x.next.drop (j + 1) := Cj hj
    have hgd : x.next.getD j 0 = x.next[j] := by rw [Ac, Ab hj]; rfl
    rw [hgd] at hlds
    rw [hdr] at hkid
    generalize x.next[j] = c at *
    have w2 : IntKind.i64.wrap (((g.nodes.length : Nat) : Int) - ((g.nodes.length - (at_ + 1 + T.length) : Nat) : Int)) = ((at_ + 1 + T.length : Nat) : Int) := by rw [wrap_i64 (by omega) (by omega)]; omega
    have w3 : IntKind.i64.wrap (d + 1) = d + 1 := wrap_i64 (by omega) (by omega)
    have w4 : IntKind.i64.wrap ((j : Int) + 1) = ((j + 1 : Nat) : Int) := by rw [wrap_i64 (by omega) (by omega)]; omega
    refine aD (aU (aD (aP ?_)))
    simp only [↓sU,sD,rE,↓reduceIte,rA, p46, p48, aG, hias, hlds]
    refine jH ?_
    simp only [↓sU,sD,rE,↓reduceIte,rA, p0, p11, aS, aR, aA, aB, eY hKX.w.1, hnl, hvl, w2]
    by_cases hc : c = ((at_ + 1 + T.length : Nat) : Int)
    rotate_left
    ·refine aY (by simp only [↓sU,sD,rE,↓reduceIte,rA, Ad (show c ≠ ((at_ + 1 + T.length : Nat) : Int) from hc)]) ?_
     refine cF ?_
     simp only [↓sU,sD,rE,↓reduceIte,rA]
     refine bD ?_
     simp only [↓sU,sD,rE,↓reduceIte,rA]
     refine .inr ⟨hX, ?_, P', D', L', hKX⟩
     rw [hkid]
     simp only [fI, if_neg hc]
     rfl
    refine aT (by simp only [↓sU,sD,rE,↓reduceIte,rA, Aa (show ¬ c ≠ ((at_ + 1 + T.length : Nat) : Int) from fun h => h hc)]) (aN ?_)
    try simp only [↓sU,sD,rE,↓reduceIte,rA]
    simp only [fI, if_pos hc] at hkid
    refine cF ?_
    simp only [↓sU,sD,rE,↓reduceIte,rA, p0, p2, p10, p11, w3]
    refine bJ ?_
    simp only [↓sU,sD,rE,↓reduceIte,rA]
    refine aW (ih (S := X) (at_ := at_ + 1 + T.length) (p := at_) (d := d + 1) (by omega) (by omega) (by omega) hTN hSX hKX hv) ?_
    rintro r Y ⟨hY, P2, D2, L2, hKY, hres⟩
    cases hw : eS g.nodes.length (dN g) f (at_ + 1 + T.length) at_ (d + 1) with
    | none =>
     rw [hw] at hres hkid
     subst hres
     simp only [↓sU,sD,rE,↓reduceIte,rA, vE, vD]
     refine cF ?_
     simp only [↓sU,sD,rE,↓reduceIte,rA, gS, Ea]
     refine aY (by simp only [↓sU,sD,rE,↓reduceIte,rA]) ?_
     refine cF ?_
     simp only [↓sU,sD,rE,↓reduceIte,rA]
     refine bD ?_
     simp only [↓sU,sD,rE,↓reduceIte,rA]
     refine .inr ⟨hX.trans hY, ?_, P2, D2, L2, hKY⟩
     rw [hkid]
     rfl
    | some T1 =>
     rw [hw] at hres hkid
     obtain ⟨⟨v2, rfl, hv2⟩, k1, k2, k3⟩ := hres
     simp only [Option.bind_some, Option.map_map] at hkid
     have hwl := (xO hw).1
     simp only [↓sU,sD,rE,↓reduceIte,rA, vE, vD]
     refine cF ?_
     simp only [↓sU,sD,rE,↓reduceIte,rA, gS, De]
     refine aT (by simp only [↓sU,sD,rE,↓reduceIte,rA]) (aN ?_)
     try simp only [↓sU,sD,rE,↓reduceIte,rA]
     refine aP ?_
     simp only [↓sU,sD,rE,↓reduceIte,rA, p48, w4]
     refine ⟨k - 1, by omega, rfl, hX.trans hY, j + 1, T ++ T1, P2, D2, L2, v2, by omega, by rw [Ah]; omega, ?_, hKY, rP.append k1, rD.append k2, rL.append k3, by rw [Ah, ← Ct]; exact hv2, by refine ⟨?_,?_,?_,?_,?_,?_,?_⟩<;>simp only [↓sU,sD,rE,↓reduceIte,rA,p0,p2,p10,p46,p47]⟩
     rw [hkid, Ah, ← Ct]
     congr 1
     funext M
     simp
   ·refine aD (aT (by simp only [↓sU,sD,rE,↓reduceIte,rA, Aa (show ¬ (j : Int) < ((x.next.length : Nat) : Int) by omega)]) (cC ?_))
    simp only [↓sU,sD,rE,↓reduceIte,rA]
    have hk0 : k = 0 := by omega
    subst hk0
    exact .inl ⟨rfl, hX, j, T, P', D', L', v, hjk, hTN, hkid, hKX, rP, rD, rL, hv, by refine ⟨?_,?_,?_,?_,?_,?_,?_⟩<;>simp only [↓sU,sD,rE,↓reduceIte,rA,p0,p2,p10,p11,p46,p47,p48]⟩
  rintro o ⟨F, inr⟩ X (⟨rfl, q0, hX, j, T, P', D', L', v, hjk, hTN, hkid, hKX, rP, rD, rL, hv, p0, p2, p10, p11, p46, p47, p48⟩ | ⟨rfl, hX, hno, p8, p9, P', D', L', hKX⟩)
  rotate_left
  ·rw [hno]
   simp only at p8 p9
   simp only [↓sU,sD,rE,↓reduceIte,rA, p8, p9]
   exact ⟨b3.trans hX, P', D', L', hKX, rfl⟩
  simp only at q0 p0 p10 p11
  subst q0
  rw [Cv (by omega)] at hkid
  simp only [fI, Option.map_some, Bk] at hkid
  rw [hkid]
  have hvl := hv.len
  rw [Cq] at hvl
  have w2 : IntKind.i64.wrap (((g.nodes.length : Nat) : Int) - ((g.nodes.length - (at_ + 1 + T.length) : Nat) : Int)) = ((at_ + 1 + T.length : Nat) : Int) := by rw [wrap_i64 (by omega) (by omega)]; omega
  have w5 : IntKind.i64.wrap (((at_ + 1 + T.length : Nat) : Int) - 1) = ((at_ + T.length : Nat) : Int) := by rw [wrap_i64 (by omega) (by omega)]; omega
  have wltX := hKX.w.2
  have hia3 := fV (b := lb) (o := false) hlt
  try simp only [↓sU,sD,rE,↓reduceIte,rA]
  refine aD (mN (fun b => b = lb) ?_)
  intro S4 s4
  simp only [↓sU,sD,rE,↓reduceIte,rA, p0, p10, p11, aS, bH, aR, aA, aO, aB, eY hKX.w.1, gI hKX.w.1, hnl, hvl, w2, w5, wltX, ne6, Ax, hia3, aM.self hG]
  have l4 := s4.1
  have bpX := hKX.bp
  have bdX := hKX.bd
  have blX := hKX.bl
  refine xQ (p := at_) (w := ((at_ + T.length : Nat) : Int)) rfl (by simp only [↓sU,sD,rE,↓reduceIte,rA]) (by simp only [↓sU,sD,rE,↓reduceIte,rA]) (by rw [s4.2 _ hKX.bl]; exact hKX.gl) (by rw [hKX.ll]; exact hlt) rfl ?_
  intro S5 s5 n5 c5
  simp only [↓sU,sD,rE,↓reduceIte,rA]
  have b5 : nR pb db lb X S5 := ⟨by omega, fun c hc h1 h2 h3 => by rw [s5.2 _ (by omega) h3, s4.2 _ hc]⟩
  refine cF ?_
  simp only [↓sU,sD,rE,↓reduceIte,rA, p11]
  refine bD ?_
  simp only [↓sU,sD,rE,↓reduceIte,rA]
  have hatP : at_ < P.length := by rw [hK.lp]; exact hlt
  have hatD : at_ < D.length := by rw [hK.ld]; exact hlt
  have hatL : at_ < L.length := by rw [hK.ll]; exact hlt
  refine ⟨b3.trans (hX.trans b5), P', D', L'.set at_ ((at_ + T.length : Nat) : Int), ⟨⟨by rw [b5.2 _ wltX ne4 ne5 ne6]; exact hKX.w.1, Ae wltX b5.1⟩, by rw [s5.2 _ (by omega) ne2, s4.2 _ hKX.bp]; exact hKX.gp, by rw [s5.2 _ (by omega) ne3, s4.2 _ hKX.bd]; exact hKX.gd, c5, hKX.lp, hKX.ld, by rw [Au]; exact hKX.ll, by show _ < S5.nx; omega, by show _ < S5.nx; omega, by show _ < S5.nx; omega⟩, ⟨v, rfl, ?_⟩, ?_, ?_, ?_⟩
  ·rw [Az, show at_ + (T.length + 1) = at_ + 1 + T.length by omega]; exact hv
  ·exact gQ.append (T := [(p, d, ((at_ + T.length : Nat) : Int))]) (gQ.one hatP rfl) rP
  ·exact gQ.append (T := [(p, d, ((at_ + T.length : Nat) : Int))]) (gQ.one hatD rfl) rD
  ·exact gQ.late rL hatL rfl
end Go.Ev.Gl
