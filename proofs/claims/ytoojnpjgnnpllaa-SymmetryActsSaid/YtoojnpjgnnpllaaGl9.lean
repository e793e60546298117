import Derived.Test.YtoojnpjgnnpllaaGl8
open Nat renaming reduceEqDiff → rE, reduceAdd → rA
set_option maxHeartbeats 4000000
set_option linter.unusedSimpArgs false
set_option linter.unusedVariables false
namespace Go.Ev.Gl
variable {fns : T cA}
theorem gT.same {S S' : St} {wb plb szb : Nat} {pv nv iv : AV} {g : bG} {R Z : List Int} (h : gT S wb plb szb pv nv iv g R Z) (hs : Same S S') : gT S' wb plb szb pv nv iv g R Z :=
 ⟨h.w.same hs, (hs.2 _ h.bp).trans h.gp, (hs.2 _ h.bz).trans h.gz, h.lp, h.lz, Nat.lt_of_lt_of_le h.bp hs.1, Nat.lt_of_lt_of_le h.bz hs.1⟩
def aIx (fns : Ev.T cA) (S : St) (nv iv mv : AV) (g : bG) (m : List Int) (ok : Prop) (P : St → St → AV → AV → Prop) : Prop :=
 dF g = 0 → m.length = g.nodes.length → aAN m g.nodes.length → ¬ aFI m → ∀ (S0 : St) (wb plb szb : Nat) (pv : AV) (T : List cK) (Z : List Int), Same S S0 → iC g = some T → T.length = g.nodes.length → bS .i64 S0 pv (T.map (·.1)) → gT S0 wb plb szb pv nv iv g (kG g) Z →
  iQ fns (.fn 116 [] []) [.ptr wb 0, mv] S0 fun r S'' => Same S0 S'' ∧ ∃ x y t, r = .tup [.agg [x, y], .bool t] ∧ (t = true ↔ ok) ∧ (t = true → P S0 S'' x y)
noncomputable def uV (g : bG) (m : List Int) (ok : Prop) : Int := if dF g ≠ 0 then dF g else kT g.nodes.length m ok
theorem aGd {S : St} {nv iv mv : AV} {g : bG} {m : List Int} {ok : Prop} {P : St → St → AV → AV → Prop} (H : Has fns) (hP : ∀ {S0 S1 S2 : St} {x y : AV}, P S0 S1 x y → S1.nx ≤ S2.nx → (∀ c, S0.nx ≤ c → c < S1.nx → S2.h.get c = S1.h.get c) → P S0 S2 x y) (hn : aQ 6 cO S nv g.nodes) (hi : aQ 2 dB S iv g.infos) (hm : bS .i64 S mv m) (hln : g.nodes.length ≤ 100000) (himg : aIx fns S nv iv mv g m ok P) :
  iQ fns (.fn 20 [] []) [.agg [.int .i64 g.players, nv, iv], mv] S fun r S' => r = .int .i64 (uV g m ok) ∧ Same S S' := by
 refine cW H.f20 (by simp) ?_
 simp only [↓sU,sD,rE,↓reduceIte,rA]
 refine cI ?_
 refine eY (by simp only [↓sU,sD,rE,↓reduceIte,rA]; exact bK _) ?_
 intro S1 s1 n1 c1
 simp only [↓sU,sD,rE,↓reduceIte,rA]
 refine cI ?_
 simp only [↓sU,sD,rE,↓reduceIte,rA, iY c1]
 refine bL ?_
 simp only [↓sU,sD,rE,↓reduceIte,rA]
 refine aW (yV H (aQ.same (E := cO) cB hn s1) (aQ.same (E := dB) cU hi s1) hln) ?_
 rintro _ X ⟨hX, p, rfl, hok⟩
 simp only [↓sU,sD,rE,↓reduceIte,rA, ex0, ex1]
 refine kK ?_
 simp only [↓sU,sD,rE,↓reduceIte,rA]
 unfold uV
 by_cases h0 : dF g = 0
 rotate_left
 ·rw [if_pos h0]
  refine bB (by simp only [↓sU,sD,rE,↓reduceIte,rA, decide_eq_true (show dF g ≠ 0 from h0)]) ?_
  refine cI ?_
  simp only [↓sU,sD,rE,↓reduceIte,rA]
  refine aY ?_
  simp only [↓sU,sD,rE,↓reduceIte,rA]
  exact s1.trans hX
 rw [if_neg (fun h => h h0)]
 refine aX (by simp only [↓sU,sD,rE,↓reduceIte,rA, decide_eq_false (show ¬ dF g ≠ 0 from fun h => h h0)]) (aO ?_)
 try simp only [↓sU,sD,rE,↓reduceIte,rA]
 obtain ⟨wb, plb, szb, pv, T, Z, rfl, _, hT, hTl, hpv, hB⟩ := hok h0
 have sX := s1.trans hX
 refine cI ?_
 simp only [↓sU,sD,rE,↓reduceIte,rA]
 refine bL ?_
 simp only [↓sU,sD,rE,↓reduceIte,rA]
 refine aW (qZ (P := P) (ok := ok) H hP hB.w (aQ.same (E := cO) cB hn sX) (hm.same sX) hln fun h1 h2 h3 S' hS' => himg h0 h1 h2 h3 S' wb plb szb pv T Z (sX.trans hS') hT hTl (hpv.same hS') (hB.same hS')) ?_
 rintro _ Y ⟨hY, x, y, rfl, _⟩
 simp only [↓sU,sD,rE,↓reduceIte,rA, ex0, ex1]
 refine cI ?_
 simp only [↓sU,sD,rE,↓reduceIte,rA]
 refine aY ?_
 simp only [↓sU,sD,rE,↓reduceIte,rA]
 exact sX.trans hY
end Go.Ev.Gl
namespace Go.Ev.Gl
variable {fns : T cA}
theorem uO {n : Nat} {m : List Int} {ok : Prop} (h : kT n m ok = 0) : m.length = n ∧ aAN m n ∧ ¬ aFI m ∧ ok := by
 unfold kT at h
 split at h
 ·exact absurd h (by decide)
 ·rename_i h1
  split at h
  ·exact absurd h (by decide)
  ·rename_i h2
   split at h
   ·exact absurd h (by decide)
   ·rename_i h3
    split at h
    ·rename_i h4
     exact ⟨Decidable.not_not.1 h1, Classical.not_not.1 h2, h3, h4⟩
    ·exact absurd h (by decide)
noncomputable def vE (g : bG) (a b : List Int) (oka okb : Prop) : Int := if uV g a oka ≠ 0 then uV g a oka else kT g.nodes.length b okb
def aNe (S' : St) (v : AV) (g : bG) (a b : List Int) (e : Int) : Prop := (e ≠ 0 → v = .nilsl) ∧ (e = 0 → bS .i64 S' v (eS a b))
abbrev aDz (P : St → St → AV → AV → Prop) : Prop := ∀ {S0 S1 S2 : St} {x y : AV}, P S0 S1 x y → S1.nx ≤ S2.nx → (∀ c, S0.nx ≤ c → c < S1.nx → S2.h.get c = S1.h.get c) → P S0 S2 x y
set_option maxHeartbeats 1000000 in
theorem aDt {S : St} {nv iv av bv : AV} {g : bG} {a b : List Int} {oka okb : Prop} {P P' : St → St → AV → AV → Prop} (H : Has fns) (hP : aDz P) (hP' : aDz P') (hn : aQ 6 cO S nv g.nodes) (hi : aQ 2 dB S iv g.infos) (ha : bS .i64 S av a) (hb : bS .i64 S bv b) (hln : g.nodes.length ≤ 100000) (ia : aIx fns S nv iv av g a oka P) (ib : aIx fns S nv iv bv g b okb P') :
  iQ fns (.fn 17 [] []) [.agg [.int .i64 g.players, nv, iv], av, bv] S fun r S' => Same S S' ∧ ∃ v, r = .tup [v, .int .i64 (vE g a b oka okb)] ∧ aNe S' v g a b (vE g a b oka okb) := by
 refine cW H.f17 (by simp) ?_
 simp only [↓sU,sD,rE,↓reduceIte,rA]
 refine cI ?_
 refine eY (by simp only [↓sU,sD,rE,↓reduceIte,rA]; exact bK _) ?_
 intro S1 s1 n1 c1
 simp only [↓sU,sD,rE,↓reduceIte,rA]
 refine cI ?_
 simp only [↓sU,sD,rE,↓reduceIte,rA, iY c1]
 refine bL ?_
 simp only [↓sU,sD,rE,↓reduceIte,rA]
 refine aW (yV H (aQ.same (E := cO) cB hn s1) (aQ.same (E := dB) cU hi s1) hln) ?_
 rintro _ X ⟨hX, p, rfl, hok⟩
 have sX := s1.trans hX
 simp only [↓sU,sD,rE,↓reduceIte,rA, ex0, ex1]
 refine kK ?_
 simp only [↓sU,sD,rE,↓reduceIte,rA]
 by_cases h0 : dF g = 0
 rotate_left
 ·have hE : vE g a b oka okb = dF g := by unfold vE uV; rw [if_pos h0, if_pos h0]
  rw [hE]
  refine bB (by simp only [↓sU,sD,rE,↓reduceIte,rA, decide_eq_true (show dF g ≠ 0 from h0)]) ?_
  refine cI ?_
  simp only [↓sU,sD,rE,↓reduceIte,rA]
  refine aY ?_
  simp only [↓sU,sD,rE,↓reduceIte,rA]
  exact ⟨sX, _, rfl, fun _ => rfl, fun h => absurd h h0⟩
 have hC : uV g a oka = kT g.nodes.length a oka := by unfold uV; rw [if_neg (fun h => h h0)]
 refine aX (by simp only [↓sU,sD,rE,↓reduceIte,rA, decide_eq_false (show ¬ dF g ≠ 0 from fun h => h h0)]) (aO ?_)
 try simp only [↓sU,sD,rE,↓reduceIte,rA]
 obtain ⟨wb, plb, szb, pv, T, Z, rfl, _, hT, hTl, hpv, hB⟩ := hok h0
 have hnX := aQ.same (E := cO) cB hn sX
 refine kK ?_
 simp only [↓sU,sD,rE,↓reduceIte,rA]
 refine bL ?_
 simp only [↓sU,sD,rE,↓reduceIte,rA]
 refine aW (qZ (P := P) (ok := oka) H hP hB.w hnX (ha.same sX) hln fun h1 h2 h3 S' hS' => ia h0 h1 h2 h3 S' wb plb szb pv T Z (sX.trans hS') hT hTl (hpv.same hS') (hB.same hS')) ?_
 rintro _ Y ⟨hY, x, y, rfl, _⟩
 have sY := sX.trans hY
 simp only [↓sU,sD,rE,↓reduceIte,rA, ex0, ex1]
 refine cI ?_
 simp only [↓sU,sD,rE,↓reduceIte,rA]
 by_cases ha0 : kT g.nodes.length a oka = 0
 rotate_left
 ·have hE : vE g a b oka okb = kT g.nodes.length a oka := by unfold vE; rw [hC, if_pos ha0]
  rw [hE]
  refine bB (by simp only [↓sU,sD,rE,↓reduceIte,rA, decide_eq_true (show kT g.nodes.length a oka ≠ 0 from ha0)]) ?_
  refine cI ?_
  simp only [↓sU,sD,rE,↓reduceIte,rA]
  refine aY ?_
  simp only [↓sU,sD,rE,↓reduceIte,rA]
  exact ⟨sY, _, rfl, fun _ => rfl, fun h => absurd h ha0⟩
 have hE : vE g a b oka okb = kT g.nodes.length b okb := by unfold vE; rw [hC, if_neg (fun h => h ha0)]
 rw [hE]
 refine aX (by simp only [↓sU,sD,rE,↓reduceIte,rA, decide_eq_false (show ¬ kT g.nodes.length a oka ≠ 0 from fun h => h ha0)]) (aO ?_)
 try simp only [↓sU,sD,rE,↓reduceIte,rA]
 refine kK ?_
 simp only [↓sU,sD,rE,↓reduceIte,rA]
 refine bL ?_
 simp only [↓sU,sD,rE,↓reduceIte,rA]
 refine aW (qZ (P := P') (ok := okb) H hP' (hB.same hY).w (aQ.same (E := cO) cB hn sY) (hb.same sY) hln fun h1 h2 h3 S' hS' => ib h0 h1 h2 h3 S' wb plb szb pv T Z (sY.trans hS') hT hTl (hpv.same (hY.trans hS')) (hB.same (hY.trans hS'))) ?_
 rintro _ W ⟨hW, x2, y2, rfl, _⟩
 have sW := sY.trans hW
 simp only [↓sU,sD,rE,↓reduceIte,rA, ex0, ex1]
 refine cI ?_
 simp only [↓sU,sD,rE,↓reduceIte,rA]
 by_cases hb0 : kT g.nodes.length b okb = 0
 rotate_left
 ·refine bB (by simp only [↓sU,sD,rE,↓reduceIte,rA, decide_eq_true (show kT g.nodes.length b okb ≠ 0 from hb0)]) ?_
  refine cI ?_
  simp only [↓sU,sD,rE,↓reduceIte,rA]
  refine aY ?_
  simp only [↓sU,sD,rE,↓reduceIte,rA]
  exact ⟨sW, _, rfl, fun _ => rfl, fun h => absurd h hb0⟩
 refine aX (by simp only [↓sU,sD,rE,↓reduceIte,rA, decide_eq_false (show ¬ kT g.nodes.length b okb ≠ 0 from fun h => h hb0)]) (aO ?_)
 try simp only [↓sU,sD,rE,↓reduceIte,rA]
 rw [hb0]
 refine cI ?_
 simp only [↓sU,sD,rE,↓reduceIte,rA]
 refine bL ?_
 simp only [↓sU,sD,rE,↓reduceIte,rA]
 refine aW (aHt H (ha.same sW) (hb.same sW) (by have := (uO ha0).1; omega) (by rw [(uO hb0).1]; exact (uO ha0).2.1)) ?_
 rintro v V ⟨hv, hV⟩
 try simp only [↓sU,sD,rE,↓reduceIte,rA]
 refine aY ?_
 simp only [↓sU,sD,rE,↓reduceIte,rA]
 exact ⟨sW.trans hV, _, rfl, fun h => absurd rfl h, fun _ => hv.is⟩
end Go.Ev.Gl
namespace Go.Ev.Gl
variable {fns : T cA}
end Go.Ev.Gl
namespace Go.Ev.Gl
variable {fns : T cA}
def aBf (m : List Int) : List Int := sL m 0 (List.replicate m.length 0)
end Go.Ev.Gl
namespace Go.Ev.Gl
variable {fns : T cA}
def aMs (S1 : St) (rb : Nat) (mv : AV) (m : List Int) (k : Nat) (A : bT) (X : St) : Prop := A.inr = false ∧ Same S1 X ∧ rb < X.nx ∧ ∃ i R, i + k = m.length ∧ R.length = m.length ∧ sL (m.drop i) i R = aBf m ∧ X.h.get rb = some (.cells (bD R) false 0) ∧ aC 31 A.F = mv ∧ aC 32 A.F = .int .i64 ((m.length : Nat) : Int) ∧ aC 8 A.F = .sl rb 0 m.length m.length false ∧ aC 33 A.F = .int .i64 (i : Int)
set_option maxHeartbeats 1000000 in
theorem aDu {S : St} {nv iv mv : AV} {g : bG} {m : List Int} {ok : Prop} {P : St → St → AV → AV → Prop} (H : Has fns) (hP : aDz P) (hn : aQ 6 cO S nv g.nodes) (hi : aQ 2 dB S iv g.infos) (hm : bS .i64 S mv m) (hln : g.nodes.length ≤ 100000) (himg : aIx fns S nv iv mv g m ok P) :
  iQ fns (.fn 18 [] []) [.agg [.int .i64 g.players, nv, iv], mv] S fun r S' => Same S S' ∧ ∃ v, r = .tup [v, .int .i64 (uV g m ok)] ∧ (uV g m ok ≠ 0 → v = .nilsl) ∧ (uV g m ok = 0 → bS .i64 S' v (aBf m)) := by
 refine cW H.f18 (by simp) ?_
 simp only [↓sU,sD,rE,↓reduceIte,rA]
 refine cI ?_
 refine eY (by simp only [↓sU,sD,rE,↓reduceIte,rA]; exact bK _) ?_
 intro S1 s1 n1 c1
 simp only [↓sU,sD,rE,↓reduceIte,rA]
 refine cI ?_
 simp only [↓sU,sD,rE,↓reduceIte,rA, iY c1]
 refine bL ?_
 simp only [↓sU,sD,rE,↓reduceIte,rA]
 refine aW (yV H (aQ.same (E := cO) cB hn s1) (aQ.same (E := dB) cU hi s1) hln) ?_
 rintro _ W ⟨hW, p, rfl, hok⟩
 have sW := s1.trans hW
 simp only [↓sU,sD,rE,↓reduceIte,rA, ex0, ex1]
 refine kK ?_
 simp only [↓sU,sD,rE,↓reduceIte,rA]
 by_cases h0 : dF g = 0
 rotate_left
 ·have hE : uV g m ok = dF g := by unfold uV; rw [if_pos h0]
  rw [hE]
  refine bB (by simp only [↓sU,sD,rE,↓reduceIte,rA, decide_eq_true (show dF g ≠ 0 from h0)]) ?_
  refine cI ?_
  simp only [↓sU,sD,rE,↓reduceIte,rA]
  refine aY ?_
  simp only [↓sU,sD,rE,↓reduceIte,rA]
  exact ⟨sW, .nilsl, rfl, fun _ => rfl, fun h => absurd h h0⟩
 have hC : uV g m ok = kT g.nodes.length m ok := by unfold uV; rw [if_neg (fun h => h h0)]
 rw [hC]
 refine aX (by simp only [↓sU,sD,rE,↓reduceIte,rA, decide_eq_false (show ¬ dF g ≠ 0 from fun h => h h0)]) (aO ?_)
 try simp only [↓sU,sD,rE,↓reduceIte,rA]
 obtain ⟨wb, plb, szb, pv, TT, Z, rfl, _, hT, hTl, hpv, hB⟩ := hok h0
 refine kK ?_
 simp only [↓sU,sD,rE,↓reduceIte,rA]
 refine bL ?_
 simp only [↓sU,sD,rE,↓reduceIte,rA]
 refine aW (qZ (P := P) (ok := ok) H hP hB.w (aQ.same (E := cO) cB hn sW) (hm.same sW) hln fun h1 h2 h3 S' hS' => himg h0 h1 h2 h3 S' wb plb szb pv TT Z (sW.trans hS') hT hTl (hpv.same hS') (hB.same hS')) ?_
 rintro _ X ⟨hX, x, y, rfl, _⟩
 have sX := sW.trans hX
 simp only [↓sU,sD,rE,↓reduceIte,rA, ex0, ex1]
 refine cI ?_
 simp only [↓sU,sD,rE,↓reduceIte,rA]
 by_cases ha0 : kT g.nodes.length m ok = 0
 rotate_left
 ·refine bB (by simp only [↓sU,sD,rE,↓reduceIte,rA, decide_eq_true (show kT g.nodes.length m ok ≠ 0 from ha0)]) ?_
  refine cI ?_
  simp only [↓sU,sD,rE,↓reduceIte,rA]
  refine aY ?_
  simp only [↓sU,sD,rE,↓reduceIte,rA]
  exact ⟨sX, .nilsl, rfl, fun _ => rfl, fun h => absurd h ha0⟩
 obtain ⟨h1, h2, h3, hk⟩ := uO ha0
 rw [← h1] at h2
 have hmX := hm.same sX
 rw [ha0]
 refine aX (by simp only [↓sU,sD,rE,↓reduceIte,rA, ha0]; rfl) (aO ?_)
 try simp only [↓sU,sD,rE,↓reduceIte,rA]
 refine cI ?_
 simp only [↓aJ,aH,rE,↓reduceIte, rA, hm.len, Int.ofNat_eq_natCast]
 refine kH (tA (n := m.length) (by simp only [↓aJ,aH,rE,↓reduceIte, rA, aL]) (by simp only [↓aJ,aH,rE,↓reduceIte, rA, aL]) (by unfold room; omega) (by unfold room; omega)) ?_
 intro X1 x1 m1 d1
 rw [xT] at d1
 simp only [↓aJ,aH,rE,↓reduceIte, rA]
 refine aE (bP (Q := fun o A' Y => o = .normal ∧ aMs X X.nx mv m 0 A' Y) (aE (aR ?_)) ?_)
 ·simp only [↓aJ,aH,rE,↓reduceIte, rA, hm.len, Int.ofNat_eq_natCast]
  refine bE (cS (aMs X X.nx mv m) ?_ m.length _ _ ⟨rfl, x1, by omega, 0, _, by omega, List.length_replicate .., rfl, d1, by simp only [↓aJ,aH,rE,↓reduceIte, rA], by simp only [↓aJ,aH,rE,↓reduceIte, rA], by simp only [↓aJ,aH,rE,↓reduceIte, rA], by simp only [↓aJ,aH,rE,↓reduceIte, rA]⟩)
  rintro k ⟨F, inr⟩ Y ⟨q0, hY, hb, i, R, hik, hR, he, hc, p31, p32, p8, p33⟩
  simp only at q0 p31 p32 p8 p33
  subst q0
  refine cI ?_
  simp only [↓aJ,aH,rE,↓reduceIte, rA, p32, p33]
  by_cases hlt : i < m.length
  ·refine aE (bB (by simp only [↓aJ,aH,rE,↓reduceIte, rA, decide_eq_true (show (i : Int) < ((m.length : Nat) : Int) by omega)]) (aO ?_))
   try simp only [↓aJ,aH,rE,↓reduceIte, rA]
   have ia := (hmX.same hY).iaddr hlt
   have la := (hmX.same hY).ld hlt
   have hdr : m.drop i = m[i] :: m.drop (i + 1) := List.drop_eq_getElem_cons hlt
   have hgd : m.getD i 0 = m[i] := by rw [List.getD_eq_getElem?_getD, List.getElem?_eq_getElem hlt]; rfl
   rw [hgd] at la
   rw [hdr] at he
   obtain ⟨v0, v1⟩ := h2 _ (List.getElem_mem hlt)
   generalize m[i] = c at *
   obtain ⟨u, rfl⟩ : ∃ u : Nat, c = (u : Int) := ⟨c.toNat, by omega⟩
   have hu : u < m.length := by omega
   have hia := gN (b := X.nx) (o := false) hu
   have w1 : IntKind.i64.wrap ((i : Int) + 1) = ((i + 1 : Nat) : Int) := by rw [wrap_i64 (by omega) (by omega)]; omega
   simp only [sL, Int.toNat_natCast] at he
   refine aE (bE (aE (aR ?_)))
   simp only [↓aJ,aH,rE,↓reduceIte, rA, p31, p33, aL, ia, la]
   refine aR ?_
   simp only [↓aJ,aH,rE,↓reduceIte, rA, p8, aL, hia]
   refine fZ (fun call => by simp only [↓aJ,aH,rE,↓reduceIte, rA, dT, cV]; exact aAd (S := Y) hc (by rw [hR]; exact hu)) ?_
   simp only [↓aJ,aH,rE,↓reduceIte, rA]
   refine aR ?_
   simp only [↓aJ,aH,rE,↓reduceIte, rA, p33, w1]
   exact ⟨k - 1, by omega, rfl, hY.put (Nat.le_refl _) _, hb, i + 1, R.set u (i : Int), by omega, by rw [List.length_set]; exact hR, he, by simp only; rw [T.get_set, if_pos rfl], by simp only [↓aJ,aH,rE,↓reduceIte, rA, p31], by simp only [↓aJ,aH,rE,↓reduceIte, rA, p32], by simp only [↓aJ,aH,rE,↓reduceIte, rA, p8], by simp only [↓aJ,aH,rE,↓reduceIte, rA]⟩
  ·refine aE (aX (by simp only [↓aJ,aH,rE,↓reduceIte, rA, decide_eq_false (show ¬ (i : Int) < ((m.length : Nat) : Int) by omega)]) (cL ?_))
   simp only [↓aJ,aH,rE,↓reduceIte, rA]
   have hk0 : k = 0 := by omega
   subst hk0
   exact ⟨rfl, hY, hb, i, R, hik, hR, he, hc, by simp only [↓aJ,aH,rE,↓reduceIte, rA, p31], by simp only [↓aJ,aH,rE,↓reduceIte, rA, p32], by simp only [↓aJ,aH,rE,↓reduceIte, rA, p8], by simp only [↓aJ,aH,rE,↓reduceIte, rA, p33]⟩
 rintro o ⟨F, inr⟩ Y ⟨rfl, q0, hY, hb, i, R, hik, hR, he, hc, p31, p32, p8, p33⟩
 simp only at q0 p8
 subst q0
 rw [List.drop_of_length_le (by omega)] at he
 have he : R = aBf m := he
 subst he
 try simp only [↓aJ,aH,rE,↓reduceIte, rA]
 refine cI ?_
 simp only [↓aJ,aH,rE,↓reduceIte, rA, p8]
 refine aY ?_
 simp only [↓aJ,aH,rE,↓reduceIte, rA]
 exact ⟨sX.trans hY, _, rfl, fun h => absurd rfl h, aBy hc hb hR⟩
end Go.Ev.Gl
namespace Go.Ev.Gl
variable {fns : T cA}
def nodeAt (g : bG) (i : Nat) : cM := g.nodes.getD i ⟨0, 0, 0, [], [], []⟩
def eT (m : List Int) (i : Nat) : Nat := (m.getD i 0).toNat
def gS (g : bG) (m : List Int) (i k : Nat) : Int := oW (nodeAt g (eT m i)).next 0 (m.getD ((nodeAt g i).next.getD k 0).toNat 0)
structure lL (g : bG) (m : List Int) : Prop where
 root : m.getD 0 0 = 0
 like : ∀ i, i < g.nodes.length → (nodeAt g i).kind = (nodeAt g (eT m i)).kind ∧ (nodeAt g i).next.length = (nodeAt g (eT m i)).next.length ∧ (nodeAt g i).pay = (nodeAt g (eT m i)).pay ∧ (nodeAt g i).player = (nodeAt g (eT m i)).player
 kid : ∀ i k, i < g.nodes.length → k < (nodeAt g i).next.length → 0 ≤ gS g m i k
 weigh : ∀ i k, i < g.nodes.length → k < (nodeAt g i).next.length → (nodeAt g i).kind = 1 → (nodeAt g i).weights.getD k 0 = (nodeAt g (eT m i)).weights.getD (gS g m i k).toNat 0
 info : ∀ i j, i < g.nodes.length → j < g.nodes.length → (nodeAt g i).kind = 2 → (nodeAt g j).kind = 2 → (nodeAt g i).info = (nodeAt g j).info → (nodeAt g (eT m i)).info = (nodeAt g (eT m j)).info ∧ ∀ k, k < (nodeAt g i).next.length → gS g m i k = gS g m j k
 inj : ∀ i j, i < g.nodes.length → j < g.nodes.length → (nodeAt g i).kind = 2 → (nodeAt g j).kind = 2 → (nodeAt g (eT m i)).info = (nodeAt g (eT m j)).info → (nodeAt g i).info = (nodeAt g j).info
def lR (g : bG) (s : Nat) : Nat := lQ g.nodes 0 s - 1
def imgI (g : bG) (m : List Int) : List Int := (List.range g.infos.length).map fun s => (nodeAt g (eT m (lR g s))).info
def imgA (g : bG) (m : List Int) : List (List Int) := (List.range g.infos.length).map fun s => (List.range (nodeAt g (lR g s)).next.length).map fun k => gS g m (lR g s) k
end Go.Ev.Gl
namespace Go.Ev.Gl
variable {fns : T cA}
theorem vS {g : bG} {i : Nat} {x : cM} (h : g.nodes[i]? = some x) : nodeAt g i = x := by unfold nodeAt; rw [List.getD_eq_getElem?_getD, h]; rfl
theorem dU {g : bG} {i : Nat} (h : i < g.nodes.length) : g.nodes[i]? = some (nodeAt g i) := by unfold nodeAt; rw [List.getD_eq_getElem?_getD, List.getElem?_eq_getElem h]; rfl
theorem iE (g : bG) (i : Nat) : dP g i = (nodeAt g i).next := by
 unfold dP nodeAt
 rw [List.getD_eq_getElem?_getD]
 cases g.nodes[i]? <;> rfl
theorem aC0 {i : Nat} : ∀ {l : List cM} {s : Nat}, lQ l s i ≠ 0 → ∃ j x, l[j]? = some x ∧ lQ l s i = s + j + 1 ∧ x.kind = 2 ∧ x.info = (i : Int)
 | [], s, h => absurd rfl h
 | x :: l, s, h => by
  simp only [lQ] at h ⊢
  by_cases hx : x.kind = 2 ∧ x.info = (i : Int)
  ·rw [if_pos hx]
   exact ⟨0, x, rfl, rfl, hx.1, hx.2⟩
  ·rw [if_neg hx] at h ⊢
   obtain ⟨j, y, h1, h2, h3, h4⟩ := aC0 h
   exact ⟨j + 1, y, by rw [List.getElem?_cons_succ]; exact h1, by rw [h2]; omega, h3, h4⟩
theorem aJW {ps : Int} {ni : Nat} {x : cM} (h : iA ps ni x = 0) (hp : ps ≤ 4) : x.pay.length ≤ 4 := by
 unfold iA at h
 split at h
 ·split at h
  ·cases h
  ·rename_i hb
   unfold qG at hb
   omega
 ·split at h
  ·split at h
   ·cases h
   ·rename_i hb
    unfold uW at hb
    omega
  ·split at h
   ·split at h
    ·cases h
    ·rename_i hb
     unfold rJ at hb
     omega
   ·cases h
structure fP (g : bG) : Prop where
 n1 : 0 < g.nodes.length
 n2 : g.nodes.length ≤ 2000
 ni : g.infos.length ≤ 200
 nxt : ∀ i, i < g.nodes.length → (nodeAt g i).next.length ≤ 1000
 pay : ∀ i, i < g.nodes.length → (nodeAt g i).pay.length ≤ 4
 wts : ∀ i, i < g.nodes.length → (nodeAt g i).kind = 1 → (nodeAt g i).weights.length = (nodeAt g i).next.length
 inf : ∀ i, i < g.nodes.length → (nodeAt g i).kind = 2 → 0 ≤ (nodeAt g i).info ∧ (nodeAt g i).info < g.infos.length ∧ (infoAt g (nodeAt g i).info).actions = (((nodeAt g i).next.length : Nat) : Int)
 fst : ∀ s, s < g.infos.length → lR g s < g.nodes.length ∧ (nodeAt g (lR g s)).kind = 2 ∧ (nodeAt g (lR g s)).info = (s : Int)
 walk : ∃ T, iC g = some T ∧ T.length = g.nodes.length ∧ WF (dP g) 0 (-1) T
theorem jX {g : bG} (h : dF g = 0) : fP g := by
 unfold dF at h
 split at h
 ·cases h
 rename_i hb
 split at h
 ·rename_i h1; exact absurd h h1
 rename_i hN
 have hN := Decidable.not_not.1 hN
 cases hW : iC g with
 | none => rw [hW] at h; cases h
 | some T =>
  rw [hW] at h
  simp only at h
  split at h
  ·cases h
  rename_i hT
  split at h
  ·cases h
  unfold aAJ at h
  split at h
  ·cases h
  rename_i hmis
  split at h
  ·cases h
  rename_i hfst
  unfold qY at hb
  have hmem : ∀ i, i < g.nodes.length → nodeAt g i ∈ g.nodes := fun i hi => List.mem_of_getElem? (dU hi)
  refine ⟨by omega, by omega, by omega, fun i hi => aC3 (jO hN _ (hmem i hi)), fun i hi => aJW (jO hN _ (hmem i hi)) (by omega), fun i hi hk => ?_, fun i hi hk => ?_, fun s hs => ?_, T, hW, by omega, ?_⟩
  ·have := jO hN _ (hmem i hi)
   unfold iA at this
   rw [if_pos hk] at this
   split at this
   ·cases this
   ·rename_i hc
    unfold qG at hc
    omega
  ·obtain ⟨a, b⟩ := aDh (jO hN _ (hmem i hi)) hk
   refine ⟨a, b, Decidable.byContradiction fun hne => hmis ⟨_, hmem i hi, hk, fun hh => hne hh.2⟩⟩
  ·have hne : lQ g.nodes 0 s ≠ 0 := fun e => hfst (by
    unfold jU
    exact List.mem_map.2 ⟨s, List.mem_range.2 hs, by rw [e]; rfl⟩)
   obtain ⟨j, x, h1, h2, h3, h4⟩ := aC0 hne
   have e : lR g s = j := by unfold lR; omega
   rw [e, vS h1]
   exact ⟨(List.getElem?_eq_some_iff.1 h1).1, h3, h4⟩
  ·unfold iC at hW
   exact mF hW
def aCF (g : bG) (m : List Int) (i : Nat) : Prop := (nodeAt g i).kind = (nodeAt g (eT m i)).kind ∧ (nodeAt g i).next.length = (nodeAt g (eT m i)).next.length ∧ (nodeAt g i).pay = (nodeAt g (eT m i)).pay ∧ (nodeAt g i).player = (nodeAt g (eT m i)).player
def aBR (g : bG) (m : List Int) (i k : Nat) : Prop := (nodeAt g i).kind = 1 → (nodeAt g i).weights.getD k 0 = (nodeAt g (eT m i)).weights.getD (gS g m i k).toNat 0
structure Seen (g : bG) (m : List Int) (V : Nat → Prop) (W : Nat → Nat → Prop) (I : List Int) (A : List (List Int)) : Prop where
 li : I.length = g.infos.length
 la : A.length = g.infos.length
 ls : ∀ s, s < g.infos.length → (((A.getD s []).length : Nat) : Int) = (infoAt g (s : Int)).actions
 iv : ∀ j, j < g.nodes.length → V j → (nodeAt g j).kind = 2 → I.getD (nodeAt g j).info.toNat 0 = (nodeAt g (eT m j)).info
 iw : ∀ s, s < g.infos.length → 0 ≤ I.getD s 0 → ∃ j, j < g.nodes.length ∧ V j ∧ (nodeAt g j).kind = 2 ∧ (nodeAt g j).info = (s : Int)
 lk : ∀ j, j < g.nodes.length → V j → aCF g m j
 kd : ∀ j k, j < g.nodes.length → k < (nodeAt g j).next.length → W j k → 0 ≤ gS g m j k ∧ aBR g m j k ∧ ((nodeAt g j).kind = 2 → (A.getD (nodeAt g j).info.toNat []).getD k 0 = gS g m j k)
structure oB (g : bG) (m : List Int) : Prop where
 len : m.length = g.nodes.length
 inn : aAN m g.nodes.length
section
variable {g : bG} {m : List Int} {V V' : Nat → Prop} {W W' : Nat → Nat → Prop} {I F : List Int} {A : List (List Int)}
theorem oB.at (h : oB g m) {i : Nat} (hi : i < g.nodes.length) : m.getD i 0 = ((eT m i : Nat) : Int) ∧ eT m i < g.nodes.length := by
 have hl : i < m.length := by rw [h.len]; exact hi
 have hmem : m.getD i 0 ∈ m := by rw [List.getD_eq_getElem?_getD, List.getElem?_eq_getElem hl]; exact List.getElem_mem _
 have := h.inn _ hmem
 unfold eT
 omega
theorem Seen.congr (h : Seen g m V W I A) (hV : ∀ j, j < g.nodes.length → (V j ↔ V' j)) (hW : ∀ j k, j < g.nodes.length → k < (nodeAt g j).next.length → W' j k → W j k) : Seen g m V' W' I A :=
 ⟨h.li, h.la, h.ls, fun j hj hv => h.iv j hj ((hV j hj).2 hv), fun s hs h0 => by obtain ⟨j, a, b, c⟩ := h.iw s hs h0; exact ⟨j, a, (hV j a).1 b, c⟩, fun j hj hv => h.lk j hj ((hV j hj).2 hv), fun j k hj hk hw => h.kd j k hj hk (hW j k hj hk hw)⟩
theorem lH {l : List Int} {n j : Nat} {x : Int} (hn : n < l.length) : (l.set n x).getD j 0 = if n = j then x else l.getD j 0 := by
 rw [List.getD_eq_getElem?_getD, List.getElem?_set]
 split
 ·rfl
 ·rw [List.getD_eq_getElem?_getD]
theorem qH {l : List (List Int)} {n j : Nat} {x : List Int} (hn : n < l.length) : (l.set n x).getD j [] = if n = j then x else l.getD j [] := by
 rw [List.getD_eq_getElem?_getD, List.getElem?_set]
 split
 ·rfl
 ·rw [List.getD_eq_getElem?_getD]
theorem qA (G : fP g) (M : oB g m) {i : Nat} (hi : i < g.nodes.length) (hl : aCF g m i) (hk : (nodeAt g i).kind = 2) : 0 ≤ (nodeAt g (eT m i)).info ∧ (nodeAt g (eT m i)).info < g.infos.length := by
 have := G.inf (eT m i) (M.at hi).2 (by rw [← hl.1]; exact hk)
 exact ⟨this.1, this.2.1⟩
theorem Seen.node (h : Seen g m V W I A) {i : Nat} (hl : aCF g m i) (hk : (nodeAt g i).kind ≠ 2) : Seen g m (fun j => V j ∨ j = i) W I A :=
 ⟨h.li, h.la, h.ls, fun j hj hv hk' => by
  rcases hv with hv | rfl
  ·exact h.iv j hj hv hk'
  ·exact absurd hk' hk, fun s hs h0 => by obtain ⟨j, a, b, c⟩ := h.iw s hs h0; exact ⟨j, a, .inl b, c⟩, fun j hj hv => by
  rcases hv with hv | rfl
  ·exact h.lk j hj hv
  ·exact hl, h.kd⟩
theorem Seen.nodeM (G : fP g) (M : oB g m) (h : Seen g m V W I A) {i : Nat} (hi : i < g.nodes.length) (hl : aCF g m i) (hk : (nodeAt g i).kind = 2) (hI : 0 ≤ I.getD (nodeAt g i).info.toNat 0 → I.getD (nodeAt g i).info.toNat 0 = (nodeAt g (eT m i)).info) : Seen g m (fun j => V j ∨ j = i) W (I.set (nodeAt g i).info.toNat (nodeAt g (eT m i)).info) A := by
 obtain ⟨a1, a2, a3⟩ := G.inf i hi hk
 have hlt : (nodeAt g i).info.toNat < I.length := by rw [h.li]; omega
 refine ⟨by rw [List.length_set]; exact h.li, h.la, h.ls, fun j hj hv hk' => ?_, fun s hs h0 => ?_, fun j hj hv => ?_, h.kd⟩
 ·rw [lH hlt]
  obtain ⟨b1, b2, b3⟩ := G.inf j hj hk'
  rcases hv with hv | rfl
  ·have := h.iv j hj hv hk'
   split
   ·rename_i e
    have e' : (nodeAt g j).info = (nodeAt g i).info := by omega
    rw [e'] at this
    have := hI (by rw [this]; exact (qA G M hj (h.lk j hj hv) hk').1)
    omega
   ·exact this
  ·rw [if_pos rfl]
 ·rw [lH hlt] at h0
  split at h0
  ·rename_i e
   exact ⟨i, hi, .inr rfl, hk, by omega⟩
  ·obtain ⟨j, a, b, c⟩ := h.iw s hs h0
   exact ⟨j, a, .inl b, c⟩
 ·rcases hv with hv | rfl
  ·exact h.lk j hj hv
  ·exact hl
theorem Seen.kid (h : Seen g m V W I A) {i k : Nat} (h0 : 0 ≤ gS g m i k) (hw : aBR g m i k) (hk : (nodeAt g i).kind ≠ 2) : Seen g m V (fun j k' => W j k' ∨ (j = i ∧ k' = k)) I A :=
 ⟨h.li, h.la, h.ls, h.iv, h.iw, h.lk, fun j k' hj hk' hv => by
  rcases hv with hv | ⟨rfl, rfl⟩
  ·exact h.kd j k' hj hk' hv
  ·exact ⟨h0, hw, fun e => absurd e hk⟩⟩
theorem Seen.kidM (G : fP g) (h : Seen g m V W I A) {i k : Nat} (hi : i < g.nodes.length) (hkl : k < (nodeAt g i).next.length) (h0 : 0 ≤ gS g m i k) (hw : aBR g m i k) (hk : (nodeAt g i).kind = 2)
  (hA : ∀ j, j < g.nodes.length → W j k → (nodeAt g j).kind = 2 → (nodeAt g j).info = (nodeAt g i).info → (A.getD (nodeAt g i).info.toNat []).getD k 0 = gS g m i k) :
  Seen g m V (fun j k' => W j k' ∨ (j = i ∧ k' = k)) I (A.set (nodeAt g i).info.toNat ((A.getD (nodeAt g i).info.toNat []).set k (gS g m i k))) := by
 obtain ⟨a1, a2, a3⟩ := G.inf i hi hk
 have hlt : (nodeAt g i).info.toNat < A.length := by rw [h.la]; omega
 have hls := h.ls (nodeAt g i).info.toNat (by omega)
 rw [show (((nodeAt g i).info.toNat : Nat) : Int) = (nodeAt g i).info by omega, a3] at hls
 refine ⟨h.li, by rw [List.length_set]; exact h.la, fun s hs => ?_, h.iv, h.iw, h.lk, fun j k' hj hk' hv => ?_⟩
 ·rw [qH hlt]
  split
  ·rename_i e
   rw [List.length_set, e]
   exact h.ls s hs
  ·exact h.ls s hs
 ·have key : (nodeAt g j).kind = 2 → ((A.set (nodeAt g i).info.toNat ((A.getD (nodeAt g i).info.toNat []).set k (gS g m i k))).getD (nodeAt g j).info.toNat []).getD k' 0 = if (nodeAt g j).info = (nodeAt g i).info ∧ k = k' then gS g m i k else (A.getD (nodeAt g j).info.toNat []).getD k' 0 := fun hkj => by
   obtain ⟨b1, b2, b3⟩ := G.inf j hj hkj
   rw [qH hlt]
   by_cases e : (nodeAt g j).info = (nodeAt g i).info
   ·rw [if_pos (by rw [e]), lH (by omega), e]
    by_cases e2 : k = k'
    ·rw [if_pos e2, if_pos ⟨rfl, e2⟩]
    ·rw [if_neg e2, if_neg (fun h => e2 h.2)]
   ·rw [if_neg (by omega), if_neg (fun h => e h.1)]
  rcases hv with hv | ⟨rfl, rfl⟩
  ·obtain ⟨c1, c2, c3⟩ := h.kd j k' hj hk' hv
   refine ⟨c1, c2, fun hkj => ?_⟩
   rw [key hkj]
   split
   ·rename_i e
    obtain ⟨e1, rfl⟩ := e
    have := c3 hkj
    rw [← hA j hj hv hkj e1, ← e1]
    exact this
   ·exact c3 hkj
  ·exact ⟨h0, hw, fun hkj => by rw [key hkj, if_pos ⟨rfl, rfl⟩]⟩
theorem aKn {i : Nat} (hi : i < g.nodes.length) (h : ¬ aCF g m i) : ¬ lL g m := fun a => h (a.like i hi)
theorem aL7 {i k : Nat} (hi : i < g.nodes.length) (hk : k < (nodeAt g i).next.length) (h : ¬ 0 ≤ gS g m i k) : ¬ lL g m := fun a => h (a.kid i k hi hk)
theorem aIH {i k : Nat} (hi : i < g.nodes.length) (hk : k < (nodeAt g i).next.length) (h : ¬ aBR g m i k) : ¬ lL g m := fun a => h (a.weigh i k hi hk)
theorem Seen.no_info (h : Seen g m V W I A) (G : fP g) {i : Nat} (hi : i < g.nodes.length) (hk : (nodeAt g i).kind = 2) (h0 : 0 ≤ I.getD (nodeAt g i).info.toNat 0) (h1 : I.getD (nodeAt g i).info.toNat 0 ≠ (nodeAt g (eT m i)).info) : ¬ lL g m := fun a => by
 obtain ⟨a1, a2, a3⟩ := G.inf i hi hk
 obtain ⟨j, b1, b2, b3, b4⟩ := h.iw _ (by omega) h0
 have e : (nodeAt g j).info = (nodeAt g i).info := by omega
 have := h.iv j b1 b2 b3
 rw [e] at this
 exact h1 (this.trans (a.info j i b1 hi b3 hk e).1)
theorem Seen.no_act (h : Seen g m V W I A) (G : fP g) {i j k : Nat} (hi : i < g.nodes.length) (hj : j < g.nodes.length) (hk : (nodeAt g i).kind = 2) (hkj : (nodeAt g j).kind = 2) (e : (nodeAt g j).info = (nodeAt g i).info) (hkl : k < (nodeAt g i).next.length) (hW : W j k) (h1 : (A.getD (nodeAt g i).info.toNat []).getD k 0 ≠ gS g m i k) : ¬ lL g m := fun a => by
 have a3 := (G.inf i hi hk).2.2
 have b3 := (G.inf j hj hkj).2.2
 rw [e, a3] at b3
 have := (h.kd j k hj (by omega) hW).2.2 hkj
 rw [e] at this
 exact h1 (this.trans ((a.info j i hj hi hkj hk e).2 k (by omega)))
theorem Seen.auto (h : Seen g m (fun _ => True) (fun _ _ => True) I A) (G : fP g) (root : m.getD 0 0 = 0) (inj : ∀ i j, i < g.nodes.length → j < g.nodes.length → (nodeAt g i).kind = 2 → (nodeAt g j).kind = 2 → (nodeAt g (eT m i)).info = (nodeAt g (eT m j)).info → (nodeAt g i).info = (nodeAt g j).info) : lL g m := by
 refine ⟨root, fun i hi => h.lk i hi trivial, fun i k hi hk => (h.kd i k hi hk trivial).1, fun i k hi hk => (h.kd i k hi hk trivial).2.1, fun i j hi hj hki hkj e => ⟨?_, fun k hk => ?_⟩, inj⟩
 ·rw [← h.iv i hi trivial hki, ← h.iv j hj trivial hkj, e]
 ·have a3 := (G.inf i hi hki).2.2
  have b3 := (G.inf j hj hkj).2.2
  rw [← e, a3] at b3
  rw [← (h.kd i k hi hk trivial).2.2 hki, ← (h.kd j k hj (by omega) trivial).2.2 hkj, e]
theorem Seen.imgI (h : Seen g m (fun _ => True) W I A) (G : fP g) : I = imgI g m := by
 refine aEZ (by rw [h.li]; simp [Gl.imgI]) fun s hs => ?_
 have hs : s < g.infos.length := by simpa [Gl.imgI] using hs
 obtain ⟨f1, f2, f3⟩ := G.fst s hs
 have := h.iv _ f1 trivial f2
 rw [f3] at this
 rw [show ((s : Int)).toNat = s by omega] at this
 rw [this]
 unfold Gl.imgI
 rw [List.getD_eq_getElem?_getD, List.getElem?_map, List.getElem?_range hs]
 rfl
theorem Seen.imgA (h : Seen g m V (fun _ _ => True) I A) (G : fP g) : A = imgA g m := by
 refine List.ext_getElem? fun s => ?_
 by_cases hs : s < g.infos.length
 ·obtain ⟨f1, f2, f3⟩ := G.fst s hs
  have a3 := (G.inf _ f1 f2).2.2
  have hl := h.ls s hs
  rw [f3] at a3
  unfold Gl.imgA
  rw [List.getElem?_map, List.getElem?_range hs, List.getElem?_eq_getElem (show s < A.length by rw [h.la]; exact hs)]
  have hA : A[s]'(by rw [h.la]; exact hs) = A.getD s [] := by rw [List.getD_eq_getElem?_getD, List.getElem?_eq_getElem (show s < A.length by rw [h.la]; exact hs)]; rfl
  rw [hA]
  show some _ = some _
  congr 1
  refine aEZ (by simp only [List.length_map, List.length_range]; omega) fun k hk => ?_
  have hk : k < (nodeAt g (lR g s)).next.length := by simpa using hk
  have := (h.kd _ k f1 hk trivial).2.2 f2
  rw [f3, show ((s : Int)).toNat = s by omega] at this
  rw [this, List.getD_eq_getElem?_getD, List.getElem?_map, List.getElem?_range hk]
  rfl
 ·rw [List.getElem?_eq_none (by rw [h.la]; omega), List.getElem?_eq_none (by simp [Gl.imgA]; omega)]
end
end Go.Ev.Gl
namespace Go.Ev.Gl
variable {fns : T cA}
def yH (b : Nat) (l : List Int) : AV := .sl b 0 l.length l.length false
structure Rws (S0 X : St) (bs : Nat → Nat) (cs : List AV) (A : List (List Int)) : Prop where
 cl : ∀ j, j < A.length → cs[j]? = some (yH (bs j) (A.getD j []))
 bl : ∀ j, j < A.length → S0.nx ≤ bs j ∧ bs j < X.nx ∧ X.h.get (bs j) = some (.cells (bD (A.getD j [])) false 0)
 dj : ∀ j k, j < A.length → k < A.length → j ≠ k → bs j ≠ bs k
section
variable {S0 X X' : St} {bs : Nat → Nat} {cs : List AV} {A : List (List Int)}
theorem Rws.move (h : Rws S0 X bs cs A) (hn : X.nx ≤ X'.nx) (hh : ∀ j, j < A.length → X'.h.get (bs j) = X.h.get (bs j)) : Rws S0 X' bs cs A :=
 ⟨h.cl, fun j hj => by obtain ⟨a, b, c⟩ := h.bl j hj; exact ⟨a, Nat.lt_of_lt_of_le b hn, (hh j hj).trans c⟩, h.dj⟩
theorem Rws.same (h : Rws S0 X bs cs A) (hs : Same X X') : Rws S0 X' bs cs A := h.move hs.1 fun j hj => hs.2 _ (h.bl j hj).2.1
theorem Rws.none : Rws S0 X bs cs [] := ⟨fun j hj => absurd hj (Nat.not_lt_zero j), fun j hj => absurd hj (Nat.not_lt_zero j), fun j k hj => absurd hj (Nat.not_lt_zero j)⟩
theorem zN {l : List (List Int)} {x : List Int} {j : Nat} : (l ++ [x]).getD j [] = if j = l.length then x else l.getD j [] := by
 rw [List.getD_eq_getElem?_getD, List.getD_eq_getElem?_getD]
 by_cases h : j < l.length
 ·rw [List.getElem?_append_left h, if_neg (by omega)]
 ·rw [List.getElem?_append_right (by omega)]
  by_cases e : j = l.length
  ·rw [if_pos e, e, Nat.sub_self]; rfl
  ·rw [if_neg e, List.getElem?_eq_none (by simp; omega), List.getElem?_eq_none (by omega)]
theorem Rws.add (h : Rws S0 X bs cs A) {nb : Nat} {l : List Int} {cs' : List AV} (h0 : S0.nx ≤ nb) (h1 : nb < X.nx) (hg : X.h.get nb = some (.cells (bD l) false 0)) (hne : ∀ j, j < A.length → bs j ≠ nb) (hc : ∀ j, j < A.length → cs'[j]? = cs[j]?) (hl : cs'[A.length]? = some (yH nb l)) : Rws S0 X (fun j => if j = A.length then nb else bs j) cs' (A ++ [l]) := by
 refine ⟨fun j hj => ?_, fun j hj => ?_, fun j k hj hk hjk => ?_⟩
 ·rw [List.length_append, List.length_singleton] at hj
  rw [zN]
  try simp only
  by_cases e : j = A.length
  ·rw [if_pos e, if_pos e, e]; exact hl
  ·rw [if_neg e, if_neg e, hc j (by omega)]; exact h.cl j (by omega)
 ·rw [List.length_append, List.length_singleton] at hj
  rw [zN]
  try simp only
  by_cases e : j = A.length
  ·rw [if_pos e, if_pos e]; exact ⟨h0, h1, hg⟩
  ·rw [if_neg e, if_neg e]; exact h.bl j (by omega)
 ·rw [List.length_append, List.length_singleton] at hj hk
  try simp only
  by_cases e : j = A.length
  ·rw [if_pos e, if_neg (by omega)]; exact Ne.symm (hne k (by omega))
  ·rw [if_neg e]
   by_cases e2 : k = A.length
   ·rw [if_pos e2]; exact hne j (by omega)
   ·rw [if_neg e2]; exact h.dj j k (by omega) (by omega) hjk
theorem Rws.put (h : Rws S0 X bs cs A) {s k : Nat} {v : Int} (hs : s < A.length) {n : Nat} (hn : X.nx ≤ n) : Rws S0 ⟨X.h.set (bs s) (some (.cells (bD ((A.getD s []).set k v)) false 0)), n⟩ bs cs (A.set s ((A.getD s []).set k v)) := by
 refine ⟨fun j hj => ?_, fun j hj => ?_, fun j k hj hk => ?_⟩
 ·rw [List.length_set] at hj
  rw [qH hs, h.cl j hj]
  split
  ·rename_i e
   unfold yH
   rw [List.length_set, e]
  ·rfl
 ·rw [List.length_set] at hj
  rw [qH hs]
  obtain ⟨a, b, c⟩ := h.bl j hj
  refine ⟨a, Nat.lt_of_lt_of_le b hn, ?_⟩
  try simp only
  rw [T.get_set]
  by_cases e : s = j
  ·rw [if_pos e, if_pos (by rw [e])]
  ·rw [if_neg e, if_neg (h.dj j s hj hs (Ne.symm e))]; exact c
 ·rw [List.length_set] at hj hk; exact h.dj j k hj hk
end
end Go.Ev.Gl
namespace Go.Ev.Gl
variable {fns : T cA}
theorem gQ.push1 {bytes t n : Nat} {S0 S : St} {v x : AV} {cs : List AV} (h : gQ 1 S0 S v n cs) (hS : Same S0 S) (ht : S.h.get t = some (.cells [x] false 0)) (h1 : n + 1 ≤ room) (h2 : (n + 1) * bytes ≤ room) :
  ∃ v' S', fV bytes 1 v (.sl t 0 1 1 false) S = some (v', S') ∧ gQ 1 S0 S' v' (n + 1) (cs ++ [x]) ∧ aP v' = some S.nx ∧ S'.nx = S.nx + 1 ∧ ∀ c, c < S.nx → aP v ≠ some c → S'.h.get c = S.h.get c := by
 have hs := aM9 ht
 rcases h with ⟨rfl, rfl, rfl⟩ | ⟨b, rfl, hb0, hb, hg, hc⟩
 ·refine ⟨.sl S.nx 0 1 1 true, ⟨S.h.set S.nx (some (.cells [x] true 1)), S.nx + 1⟩, ?_, .inr ⟨S.nx, by rw [Nat.zero_add], hS.1, by simp, ?_, ?_⟩, rfl, rfl, fun c hc _ => (Same.alloc S _).2 c hc⟩
  ·show (aU (some 1) fun j => aU (dS (.sl t 0 1 1 false) S.h 1 j) fun new => zM .nilsl bytes 1 j new S) = _
   rw [aF, hs, aF]
   show pE bytes 1 1 [x] S = _
   unfold pE
   rw [show Nat.beq 1 0 = false from rfl, aM, Nat.ble_eq_true_of_le (by omega), aG, Nat.ble_eq_true_of_le (by rw [Nat.zero_add] at h2; exact h2), aG]
   rfl
  ·simp only
   rw [T.get_set, if_pos rfl]
   rfl
  ·rfl
 ·refine ⟨.sl S.nx 0 (n + 1) (n + 1) true, ⟨(S.h.set b none).set S.nx (some (.cells (cs ++ [x]) true 1)), S.nx + 1⟩, ?_, .inr ⟨S.nx, rfl, hS.1, by simp, ?_, by rw [List.length_append, hc, List.length_singleton, Nat.add_mul, Nat.one_mul]⟩, rfl, rfl, fun c hc hne => ?_⟩
  ·show (aU (some 1) fun j => aU (dS (.sl t 0 1 1 false) S.h 1 j) fun new => zM (.sl b 0 n n true) bytes 1 j new S) = _
   rw [aF, hs, aF]
   show kD bytes 1 b 0 n n true 1 [x] S = _
   unfold kD
   have e2 : Nat.ble (n + 1) n = false := by rw [Bool.eq_false_iff]; intro h; have := Nat.le_of_ble_eq_true h; omega
   rw [e2, aM, Nat.ble_eq_true_of_le h1, aG, Nat.ble_eq_true_of_le h2, aG, hg, aF]
   have e3 : cut cs 0 (n * 1) = some cs := by
    unfold cut
    rw [fJ, fT, List.drop_zero, if_pos (by omega), List.take_of_length_le (by omega)]
   have e4 : Nat.beq (0 + n * 1) (jM cs) = true := by rw [dR, hc, Nat.beq_eq]; omega
   simp only [vC, e3, aF, aG, e4, show Nat.beq 1 1 = true from rfl, grown, fB]
  ·simp only
   rw [T.get_set, if_pos rfl]
  ·simp only
   have : c ≠ b := fun e => hne (by rw [e]; rfl)
   rw [T.get_set, if_neg (by omega), T.get_set, if_neg this]
theorem gQ.move {k n : Nat} {S0 S S' : St} {v : AV} {cs : List AV} (h : gQ k S0 S v n cs) (hn : S.nx ≤ S'.nx) (hh : ∀ c, aP v = some c → S'.h.get c = S.h.get c) : gQ k S0 S' v n cs := by
 rcases h with h | ⟨b, rfl, h2, h3, h4, h5⟩
 ·exact .inl h
 ·exact .inr ⟨b, rfl, h2, Nat.lt_of_lt_of_le h3 hn, (hh b rfl).trans h4, h5⟩
theorem bS.place {k : IntKind} {S : St} {v : AV} {l : List Int} (h : bS k S v l) {i : Nat} (hi : i < l.length) : ∃ b p, aAt v i = .ptr b p ∧ b < S.nx := by
 rcases h with ⟨h0, _⟩ | ⟨b, off, cap, o, cs, rfl, _, hb, _⟩
 ·rw [h0] at hi; exact absurd hi (Nat.not_lt_zero _)
 ·exact ⟨b, _, rfl, hb⟩
theorem aNj {h : Ev.T AB} {a b s s' : Nat} {cs cs' : List AV} (ha : h.get a = some (.cells cs false s)) (hb : h.get b = some (.cells cs' true s')) : a ≠ b := fun e => by
 rw [e, hb] at ha
 obtain ⟨_, h2, _⟩ := AB.cells.inj (Option.some.inj ha)
 cases h2
theorem aIR {W : Nat → Prop} {h0 : Ev.T AB} {base : Nat} {F : Fr} {S : St} {Q : Fr → St → List gI → Prop} {i a b n m1 m2 j1 j2 : Nat} {z cx cy : List AV} {t1 t2 u1 u2 : cH} (ht1 : Nat.testBit m1 j1 = true) (ht2 : Nat.testBit m1 j2 = true) (hm2 : kI (some i) m2 = true)
  (h1 : t1.val F = .ptr a 0) (h2 : t2.val F = .ptr b 0) (hu1 : (u1.val F).cells = some cx) (hu2 : (u2.val F).cells = some cy) (lz : z.length = n) (lx : cx.length = n) (ly : cy.length = n) (hab : a ≠ b) (hba : base ≤ a) (hbb : base ≤ b)
  (hr : ∀ S', S'.nx = S.nx → S'.h.get a = some (.cells cx false 0) → S'.h.get b = some (.cells cy false 0) → (∀ c, c ≠ a → c ≠ b → S'.h.get c = S.h.get c) → Q F S' []) :
  fH fns W h0 base [⟨none, .x (.st n t1 u1), none, m1⟩, ⟨none, .x (.st n t2 u2), none, m2⟩] i F S [⟨j2, b, .cells z false 0⟩, ⟨j1, a, .cells z false 0⟩] none Q := by
 have hf : cE m1 [⟨j2, b, .cells z false 0⟩, ⟨j1, a, .cells z false 0⟩] S.h = ([], (S.h.set b (some (.cells z false 0))).set a (some (.cells z false 0))) := by rw [kN ht2, kN ht1, bX]
 have hg1 : ((S.h.set b (some (.cells z false 0))).set a (some (.cells z false 0))).get a = some (.cells z false 0) := by rw [T.get_set, if_pos rfl]
 have x1 := yB (S := ⟨(S.h.set b (some (.cells z false 0))).set a (some (.cells z false 0)), S.nx⟩) (cs' := cx) (n := n) hg1 lz lx
 refine uF (S1 := ⟨((S.h.set b (some (.cells z false 0))).set a (some (.cells z false 0))).set a (some (.cells cx false 0)), S.nx⟩) rfl ?_ ?_ ?_
 ·rw [hf, h1, hu1, aF]; exact x1
 ·rw [hf]; exact ⟨Nat.le_refl _, fun c hc _ => by simp only; rw [T.get_set, if_neg (by omega)]⟩
 rw [hf]
 have hg2 : (((S.h.set b (some (.cells z false 0))).set a (some (.cells z false 0))).set a (some (.cells cx false 0))).get b = some (.cells z false 0) := by rw [T.get_set, if_neg (Ne.symm hab), T.get_set, if_neg (Ne.symm hab), T.get_set, if_pos rfl]
 have x2 := yB (S := ⟨((S.h.set b (some (.cells z false 0))).set a (some (.cells z false 0))).set a (some (.cells cx false 0)), S.nx⟩) (cs' := cy) (n := n) hg2 lz ly
 refine uF (S1 := ⟨(((S.h.set b (some (.cells z false 0))).set a (some (.cells z false 0))).set a (some (.cells cx false 0))).set b (some (.cells cy false 0)), S.nx⟩) hm2 ?_ ?_ ?_
 ·rw [bX]
  show aU (u2.val F).cells (fun cs => oH (t2.val F) n cs _) = _
  rw [h2, hu2, aF]; exact x2
 ·rw [bX]; exact ⟨Nat.le_refl _, fun c hc _ => by simp only; rw [T.get_set, if_neg (by omega)]⟩
 rw [bX]
 refine hr _ rfl ?_ ?_ fun c hc1 hc2 => ?_
 ·simp only; rw [T.get_set, if_neg hab, T.get_set, if_pos rfl]
 ·simp only; rw [T.get_set, if_pos rfl]
 ·simp only; rw [T.get_set, if_neg hc2, T.get_set, if_neg hc1, T.get_set, if_neg hc1, T.get_set, if_neg hc2]
theorem Rws.low {S S1 X : St} {bs : Nat → Nat} {cs : List AV} {A : List (List Int)} (h : Rws S1 X bs cs A) (hs : S.nx ≤ S1.nx) : Rws S X bs cs A := ⟨h.cl, fun j hj => by obtain ⟨a, b⟩ := h.bl j hj; exact ⟨Nat.le_trans hs a, b⟩, h.dj⟩
theorem aFJ {h : Ev.T AB} {b p sz : Nat} {l : List Int} {o : Bool} (hb : h.get b = some (.cells (bD l) o sz)) (hp : p < l.length) : fK (.ptr b p) false 1 h = some (.int .i64 (l.getD p 0)) := cQ hb (by
 unfold bD
 rw [List.getElem?_map, List.getElem?_eq_getElem hp, List.getD_eq_getElem?_getD, List.getElem?_eq_getElem hp]
 rfl)
theorem aBn {k : IntKind} {x : Int} (h : 0 ≤ x) : eF (.int k x) = some x.toNat := by
 obtain ⟨n, rfl⟩ : ∃ n : Nat, x = (n : Int) := ⟨x.toNat, by omega⟩
 rw [Int.toNat_natCast]
 exact aL ..
theorem qB {x0 x1 x2 : Int} {a b c : AV} {k : IntKind} (ha : cN a a = true) (hb : cN b b = true) (hc : cN c c = true) : cN (.agg [.int k x0, .int k x1, .int k x2, a, b, c]) (.agg [.int k x0, .int k x1, .int k x2, a, b, c]) = true := aDg (eU ..) (eU ..) (eU ..) ha hb hc
theorem aKL {g : bG} {m : List Int} {i k : Nat} (h : 0 ≤ gS g m i k) : (gS g m i k).toNat < (nodeAt g (eT m i)).next.length := by
 unfold gS at h ⊢
 rcases mK (c := m.getD ((nodeAt g i).next.getD k 0).toNat 0) (l := (nodeAt g (eT m i)).next) (s := 0) with ⟨h1, _⟩ | ⟨j, h1, h2, _⟩
 ·rw [h1] at h; exact absurd h (by decide)
 ·rw [h1]
  have := (List.getElem?_eq_some_iff.1 h2).1
  omega
end Go.Ev.Gl
namespace Go.Ev.Gl
variable {fns : T cA}
structure gJ (g : bG) (m : List Int) (n e : Nat) (I F : List Int) (A : List (List Int)) : Prop where
 s : Seen g m (fun j => j < n) (fun j k => (nodeAt g j).next.getD k 0 < (e : Int)) I A
 lf : F.length = g.infos.length
 fv : ∀ j, j < g.nodes.length → j < n → (nodeAt g j).kind = 2 → F.getD (nodeAt g (eT m j)).info.toNat 0 = (nodeAt g j).info
 fw : ∀ t, t < g.infos.length → 0 ≤ F.getD t 0 → ∃ j, j < g.nodes.length ∧ j < n ∧ (nodeAt g j).kind = 2 ∧ (nodeAt g (eT m j)).info = (t : Int)
 aw : ∀ s, s < g.infos.length → ∀ k, k < (A.getD s []).length → 0 ≤ (A.getD s []).getD k 0 → ∃ j, j < g.nodes.length ∧ (nodeAt g j).kind = 2 ∧ (nodeAt g j).info = (s : Int) ∧ k < (nodeAt g j).next.length ∧ (nodeAt g j).next.getD k 0 < (e : Int)
section
variable {g : bG} {m : List Int} {I F : List Int} {A : List (List Int)} {n e : Nat}
theorem gJ.node (h : gJ g m n e I F A) (hl : aCF g m n) (hk : (nodeAt g n).kind ≠ 2) : gJ g m (n + 1) e I F A :=
 ⟨(h.s.node hl hk).congr (fun j _ => by omega) (fun _ _ _ _ h => h), h.lf, fun j hj hn hkj => by
  by_cases e : j = n
  ·rw [e] at hkj; exact absurd hkj hk
  ·exact h.fv j hj (by omega) hkj, fun t ht h0 => by obtain ⟨j, a, b, c⟩ := h.fw t ht h0; exact ⟨j, a, by omega, c⟩, h.aw⟩
theorem gJ.nodeM (G : fP g) (M : oB g m) (h : gJ g m n e I F A) (hi : n < g.nodes.length) (hl : aCF g m n) (hk : (nodeAt g n).kind = 2) (hI : 0 ≤ I.getD (nodeAt g n).info.toNat 0 → I.getD (nodeAt g n).info.toNat 0 = (nodeAt g (eT m n)).info) (hF : 0 ≤ F.getD (nodeAt g (eT m n)).info.toNat 0 → F.getD (nodeAt g (eT m n)).info.toNat 0 = (nodeAt g n).info) :
  gJ g m (n + 1) e (I.set (nodeAt g n).info.toNat (nodeAt g (eT m n)).info) (F.set (nodeAt g (eT m n)).info.toNat (nodeAt g n).info) A := by
 obtain ⟨b1, b2⟩ := qA G M hi hl hk
 have hlt : (nodeAt g (eT m n)).info.toNat < F.length := by rw [h.lf]; omega
 refine ⟨(h.s.nodeM G M hi hl hk hI).congr (fun j _ => by omega) (fun _ _ _ _ h => h), by rw [List.length_set]; exact h.lf, fun j hj hn hkj => ?_, fun t ht h0 => ?_, h.aw⟩
 ·rw [lH hlt]
  by_cases e : j = n
  ·rw [e, if_pos rfl]
  ·have hv := h.fv j hj (by omega) hkj
   split
   ·rename_i e2
    have := (qA G M hj (h.s.lk j hj (by omega)) hkj)
    have e3 : (nodeAt g (eT m n)).info = (nodeAt g (eT m j)).info := by omega
    rw [← e3] at hv
    rw [← hF (by rw [hv]; exact (G.inf j hj hkj).1), hv]
   ·exact hv
 ·rw [lH hlt] at h0
  split at h0
  ·exact ⟨n, hi, by omega, hk, by omega⟩
  ·obtain ⟨j, a, b, c⟩ := h.fw t ht h0
   exact ⟨j, a, by omega, c⟩
theorem fP.kids (G : fP g) : ∀ j, j < g.nodes.length → ∀ k, k < (nodeAt g j).next.length → (j : Int) < (nodeAt g j).next.getD k 0 ∧ (nodeAt g j).next.getD k 0 < g.nodes.length := fun j hj k hk => by
 obtain ⟨T, _, hTl, hW⟩ := G.walk
 have hm : (nodeAt g j).next.getD k 0 ∈ (nodeAt g j).next := by rw [List.getD_eq_getElem?_getD, List.getElem?_eq_getElem hk]; exact List.getElem_mem _
 have := hW.cf j (by omega) _ (by rw [Nat.zero_add, iE]; exact hm)
 omega
theorem fP.only (G : fP g) {j k j' k' : Nat} (hj : j < g.nodes.length) (hk : k < (nodeAt g j).next.length) (hj' : j' < g.nodes.length) (hk' : k' < (nodeAt g j').next.length) (e : (nodeAt g j).next.getD k 0 = (nodeAt g j').next.getD k' 0) : j = j' ∧ k = k' := by
 obtain ⟨T, _, hTl, hW⟩ := G.walk
 have mem : ∀ {j k : Nat}, k < (nodeAt g j).next.length → (nodeAt g j).next.getD k 0 ∈ (nodeAt g j).next := fun {j k} hk => by rw [List.getD_eq_getElem?_getD, List.getElem?_eq_getElem hk]; exact List.getElem_mem _
 have h1 := (hW.cf j (by omega) _ (by rw [Nat.zero_add, iE]; exact mem hk)).2.2
 have h2 := (hW.cf j' (by omega) _ (by rw [Nat.zero_add, iE]; exact mem hk')).2.2
 rw [e, h2] at h1
 have hjj : j = j' := by have := Option.some.inj h1; omega
 subst hjj
 have hinc := hW.inc j (by omega)
 rw [Nat.zero_add, iE] at hinc
 refine ⟨rfl, ?_⟩
 rw [List.getD_eq_getElem?_getD, List.getD_eq_getElem?_getD, List.getElem?_eq_getElem hk, List.getElem?_eq_getElem hk'] at e
 have e : (nodeAt g j).next[k] = (nodeAt g j).next[k'] := e
 rcases Nat.lt_trichotomy k k' with h | h | h
 ·have := List.pairwise_iff_getElem.1 hinc k k' hk hk' h; omega
 ·exact h
 ·have := List.pairwise_iff_getElem.1 hinc k' k hk' hk h; omega
theorem gJ.kid (G : fP g) (h : gJ g m n n I F A) {i k : Nat} (hi : i < g.nodes.length) (hkl : k < (nodeAt g i).next.length) (hc : (nodeAt g i).next.getD k 0 = (n : Int)) (h0 : 0 ≤ gS g m i k) (hw : aBR g m i k) (hk : (nodeAt g i).kind ≠ 2) : gJ g m n (n + 1) I F A :=
 ⟨(h.s.kid h0 hw hk).congr (fun _ _ => Iff.rfl) (fun j k' hj hk' h => by
  by_cases e : (nodeAt g j).next.getD k' 0 = (n : Int)
  ·exact .inr (G.only hj hk' hi hkl (by rw [e, hc]))
  ·exact .inl (by omega)), h.lf, h.fv, h.fw, fun s hs k hk h0 => by obtain ⟨j, a, b, c, d, e⟩ := h.aw s hs k hk h0; exact ⟨j, a, b, c, d, by omega⟩⟩
theorem gJ.kidM (G : fP g) (h : gJ g m n n I F A) {i k : Nat} (hi : i < g.nodes.length) (hkl : k < (nodeAt g i).next.length) (hc : (nodeAt g i).next.getD k 0 = (n : Int)) (h0 : 0 ≤ gS g m i k) (hw : aBR g m i k) (hk : (nodeAt g i).kind = 2)
  (hA : 0 ≤ (A.getD (nodeAt g i).info.toNat []).getD k 0 → (A.getD (nodeAt g i).info.toNat []).getD k 0 = gS g m i k) : gJ g m n (n + 1) I F (A.set (nodeAt g i).info.toNat ((A.getD (nodeAt g i).info.toNat []).set k (gS g m i k))) := by
 obtain ⟨a1, a2, a3⟩ := G.inf i hi hk
 have hlt : (nodeAt g i).info.toNat < A.length := by rw [h.s.la]; omega
 have hls := h.s.ls (nodeAt g i).info.toNat (by omega)
 rw [show (((nodeAt g i).info.toNat : Nat) : Int) = (nodeAt g i).info by omega, a3] at hls
 refine ⟨(h.s.kidM G hi hkl h0 hw hk fun j hj hWj hkj e => ?_).congr (fun _ _ => Iff.rfl) (fun j k' hj hk' h => ?_), h.lf, h.fv, h.fw, fun s hs k' hk' h0' => ?_⟩
 ·have b3 := (G.inf j hj hkj).2.2
  rw [e, a3] at b3
  obtain ⟨c1, _, c3⟩ := h.s.kd j k hj (by omega) hWj
  have := c3 hkj
  rw [e] at this
  exact hA (by rw [this]; exact c1)
 ·by_cases e : (nodeAt g j).next.getD k' 0 = (n : Int)
  ·exact .inr (G.only hj hk' hi hkl (by rw [e, hc]))
  ·exact .inl (by omega)
 ·have hold : k' < (A.getD s []).length → 0 ≤ (A.getD s []).getD k' 0 → ∃ j, j < g.nodes.length ∧ (nodeAt g j).kind = 2 ∧ (nodeAt g j).info = (s : Int) ∧ k' < (nodeAt g j).next.length ∧ (nodeAt g j).next.getD k' 0 < ((n + 1 : Nat) : Int) := fun h1 h2 => by
   obtain ⟨j, a, b, c, d, e⟩ := h.aw s hs k' h1 h2
   exact ⟨j, a, b, c, d, by omega⟩
  rw [qH hlt] at hk' h0'
  split at hk'
  ·rename_i e
   rw [if_pos e] at h0'
   rw [List.length_set] at hk'
   rw [lH (by omega)] at h0'
   split at h0'
   ·rename_i e2
    subst e2
    exact ⟨i, hi, hk, by clear hold hA h0' hk' h; omega, hkl, by rw [hc]; exact Int.ofNat_lt.2 (Nat.lt_succ_self n)⟩
   ·rw [e] at hk' h0'
    exact hold hk' h0'
  ·rename_i e
   rw [if_neg e] at h0'
   exact hold hk' h0'
theorem gJ.no_from (h : gJ g m n e I F A) (G : fP g) (M : oB g m) {i : Nat} (hi : i < g.nodes.length) (hl : aCF g m i) (hk : (nodeAt g i).kind = 2) (h0 : 0 ≤ F.getD (nodeAt g (eT m i)).info.toNat 0) (h1 : F.getD (nodeAt g (eT m i)).info.toNat 0 ≠ (nodeAt g i).info) : ¬ lL g m := fun a => by
 obtain ⟨b1, b2⟩ := qA G M hi hl hk
 obtain ⟨j, c1, c2, c3, c4⟩ := h.fw _ (by omega) h0
 have e : (nodeAt g (eT m j)).info = (nodeAt g (eT m i)).info := by omega
 have := h.fv j c1 c2 c3
 rw [e] at this
 exact h1 (this.trans (a.inj j i c1 hi c3 hk e))
theorem gJ.no_act (h : gJ g m n e I F A) (G : fP g) {i k : Nat} (hi : i < g.nodes.length) (hk : (nodeAt g i).kind = 2) (hkl : k < (nodeAt g i).next.length) (h0 : 0 ≤ (A.getD (nodeAt g i).info.toNat []).getD k 0) (h1 : (A.getD (nodeAt g i).info.toNat []).getD k 0 ≠ gS g m i k) : ¬ lL g m := by
 obtain ⟨a1, a2, a3⟩ := G.inf i hi hk
 have hls := h.s.ls (nodeAt g i).info.toNat (by omega)
 rw [show (((nodeAt g i).info.toNat : Nat) : Int) = (nodeAt g i).info by omega, a3] at hls
 obtain ⟨j, b1, b2, b3, b4, b5⟩ := h.aw (nodeAt g i).info.toNat (by omega) k (by omega) h0
 exact h.s.no_act G hi b1 hk b2 (by omega) hkl b5 h1
def yR (g : bG) : List (List Int) := g.infos.map fun x => List.replicate x.actions.toNat (-1)
theorem gJ.start (G : fP g) (m : List Int) : gJ g m 0 1 (List.replicate g.infos.length (-1)) (List.replicate g.infos.length (-1)) (yR g) := by
 have hrep : ∀ (n t : Nat), t < n → ¬ 0 ≤ (List.replicate n (-1 : Int)).getD t 0 := fun n t ht h0 => by
  rw [List.getD_eq_getElem?_getD, List.getElem?_replicate, if_pos ht] at h0
  exact absurd h0 (by decide)
 have hun : ∀ s, s < g.infos.length → (yR g).getD s [] = List.replicate (infoAt g (s : Int)).actions.toNat (-1) := fun s hs => by
  unfold yR infoAt
  rw [List.getD_eq_getElem?_getD, List.getElem?_map, List.getD_eq_getElem?_getD, Int.toNat_natCast, List.getElem?_eq_getElem hs]
  rfl
 refine ⟨⟨List.length_replicate .., by unfold yR; rw [List.length_map], fun s hs => ?_, fun j _ hj => by omega, fun s hs h0 => absurd h0 (hrep _ _ hs), fun j _ hj => by omega, fun j k hj hk hw => ?_⟩, List.length_replicate .., fun j _ hj => by omega, fun t ht h0 => absurd h0 (hrep _ _ ht), fun s hs k hk h0 => ?_⟩
 ·obtain ⟨f1, f2, f3⟩ := G.fst s hs
  have hac := (G.inf _ f1 f2).2.2
  rw [f3] at hac
  rw [hun s hs, List.length_replicate]
  omega
 ·have := (G.kids j hj k hk).1
  omega
 ·rw [hun s hs] at hk h0
  rw [List.length_replicate] at hk
  exact absurd h0 (hrep _ _ hk)
theorem gJ.full (h : gJ g m g.nodes.length g.nodes.length I F A) (G : fP g) (M : oB g m) (root : m.getD 0 0 = 0) : lL g m ∧ I = imgI g m ∧ A = imgA g m := by
 have hS : Seen g m (fun _ => True) (fun _ _ => True) I A := h.s.congr (fun j hj => ⟨fun _ => trivial, fun _ => hj⟩) fun j k hj hk _ => (G.kids j hj k hk).2
 refine ⟨hS.auto G root fun i j hi hj hki hkj e => ?_, hS.imgI G, hS.imgA G⟩
 rw [← h.fv i hi hi hki, ← h.fv j hj hj hkj, e]
end
theorem aJS {g : bG} {m : List Int} {T : List cK} (hW : WF (dP g) 0 (-1) T) (hT : T.length = g.nodes.length) (M : oB g m) {i k : Nat} (hi : i < g.nodes.length) (hv : ((nodeAt g i).next.getD k 0).toNat < g.nodes.length) :
  ((T.map (·.1)).getD (eT m ((nodeAt g i).next.getD k 0).toNat) 0 = ((eT m i : Nat) : Int) → 0 ≤ gS g m i k ∧ gS g m i k = (kG g).getD (eT m ((nodeAt g i).next.getD k 0).toNat) 0) ∧ ((T.map (·.1)).getD (eT m ((nodeAt g i).next.getD k 0).toNat) 0 ≠ ((eT m i : Nat) : Int) → ¬ 0 ≤ gS g m i k) := by
 obtain ⟨hve, hvN⟩ := M.at hv
 have hti := (M.at hi).2
 unfold gS
 rw [hve]
 generalize eT m ((nodeAt g i).next.getD k 0).toNat = v at *
 generalize eT m i = t at *
 have hpar : (T.map (·.1)).getD v 0 = (jD T v).getD 0 := by
  unfold jD
  rw [List.getD_eq_getElem?_getD, List.getElem?_map]
 have hsome : ∃ p, jD T v = some p := by
  unfold jD
  rw [List.getElem?_eq_getElem (show v < T.length by omega)]
  exact ⟨_, rfl⟩
 obtain ⟨p, hp⟩ := hsome
 rw [hpar, hp]
 constructor
 ·intro h
  have h : p = (t : Int) := h
  subst h
  by_cases v0 : v = 0
  ·subst v0
   rw [hW.root] at hp
   have := Option.some.inj hp
   omega
  obtain ⟨q, q1, q2, q3⟩ := hW.pf v (by omega) (by omega)
  rw [hp] at q2
  have hq := Option.some.inj q2
  have hqt : q = t := by omega
  subst hqt
  rw [Nat.zero_add, Nat.zero_add, iE] at q3
  rcases mK (c := ((v : Nat) : Int)) (l := (nodeAt g q).next) (s := 0) with ⟨h1, h2⟩ | ⟨j, h1, h2, _⟩
  ·exact absurd q3 h2
  ·have hpl := aFZ hW hT hti (k := j) (c := ((v : Nat) : Int)) (by rw [iE]; exact h2)
   rw [Int.toNat_natCast] at hpl
   rw [h1, hpl, Nat.zero_add]
   exact ⟨by omega, rfl⟩
 ·intro h h0
  have h : p ≠ (t : Int) := h
  rcases mK (c := ((v : Nat) : Int)) (l := (nodeAt g t).next) (s := 0) with ⟨h1, h2⟩ | ⟨j, h1, h2, _⟩
  ·rw [h1] at h0; exact absurd h0 (by decide)
  ·have := (hW.cf t (by omega) _ (by rw [Nat.zero_add, iE]; exact List.mem_of_getElem? h2)).2.2
   rw [show ((v : Nat) : Int).toNat - 0 = v by omega, hp, Nat.zero_add] at this
   exact h (Option.some.inj this)
end Go.Ev.Gl
