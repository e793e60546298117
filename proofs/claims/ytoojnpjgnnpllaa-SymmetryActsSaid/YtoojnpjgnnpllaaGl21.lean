import Derived.Test.YtoojnpjgnnpllaaGl20
open Nat renaming reduceEqDiff → rE, reduceAdd → rA
set_option maxHeartbeats 4000000
set_option linter.unusedSimpArgs false
set_option linter.unusedVariables false
namespace Go.Ev.Gl
variable {fns : T cA}
theorem oD {l : jJ} {i m : Nat} {h h' : Ev.T AB} {r : List (Nat × Nat × Ev.T AB)} (h1 : Nat.testBit l.mask i = false) (h2 : lM l.v (gP l.q l.F h) = true) (h3 : eG l r h' = true) : eG l ((i, m, h') :: r) h = true := by
 unfold eG
 rw [h1, aM, h2, aG, h3]
 cases Nat.testBit m l.i <;> rfl
theorem pS {l : jJ} {i m : Nat} {h h' : Ev.T AB} {r : List (Nat × Nat × Ev.T AB)} (h1 : Nat.testBit l.mask i = false) (h2 : lM l.v (gP l.q l.F h) = true) (h3 : Nat.testBit m l.i = true) : eG l ((i, m, h') :: r) h = true := by
 unfold eG
 rw [h1, aM, h2, aG, h3, aG]
theorem iF {F : Fr} {h : Ev.T AB} {x : cH} {p v : AV} (hx : x.val F = p) (hl : fK p false 1 h = some v) (hs : cN v v = true) : lM v (gP (.ld false 1 x) F h) = true := by
 rw [zR, hx, hl]
 exact hs
theorem aEN {k n : Nat} {S0 S : St} {v : AV} {cs : List AV} (h : gQ k S0 S v n cs) : cN v v = true := by
 rcases h with ⟨rfl, _⟩ | ⟨b, rfl, _⟩
 ·rfl
 ·exact mP ..
noncomputable def aIE : AC := (.drw [⟨(some 50),(.q (.faddr 1 (.t 16))),none,0⟩,
⟨(some 51),(.q (.ld false 1 (.t 50))),none,1⟩,
⟨(some 52),(.q (.faddr 1 (.t 16))),none,0⟩,
⟨(some 53),(.q (.ld false 1 (.t 52))),none,4⟩,
⟨(some 54),(.q (.faddr 1 (.t 16))),none,0⟩,
⟨(some 55),(.q (.ld false 1 (.t 54))),none,16⟩,
⟨(some 56),(.q (.iaddr (.slice 6) (.t 55) (.c (.int .i64 (.ofNat 0))))),none,48⟩,
⟨(some 57),(.q (.faddr 3 (.t 56))),none,112⟩,
⟨(some 58),(.q (.ld false 1 (.t 57))),none,240⟩,
⟨(some 59),(.q (.mv (.t 18))),none,0⟩,
⟨(some 60),(.a (.bslice 3 1 1 [(.int .i64 (.ofNat 0))] [(0,(.t 59))])),none,512⟩,
⟨(some 61),(.x (.app 3 1 8 (.t 58) (.t 60))),none,2032⟩,
⟨(some 62),(.q (.faddr 1 (.t 16))),none,0⟩,
⟨(some 63),(.q (.ld false 1 (.t 62))),none,4096⟩,
⟨(some 64),(.q (.iaddr (.slice 6) (.t 63) (.c (.int .i64 (.ofNat 0))))),none,12288⟩,
⟨(some 65),(.q (.faddr 4 (.t 64))),none,28672⟩,
⟨(some 66),(.q (.ld false 1 (.t 65))),none,61440⟩,
⟨(some 67),(.a (.bslice 3 1 1 [(.int .i64 (.ofNat 0))] [(0,(.c (.int .i64 (.ofNat 1))))])),none,0⟩,
⟨(some 68),(.x (.app 3 1 8 (.t 66) (.t 67))),none,262128⟩,
⟨(some 69),(.q (.iaddr (.slice 6) (.t 51) (.c (.int .i64 (.ofNat 0))))),none,524275⟩,
⟨(some 70),(.q (.faddr 3 (.t 69))),none,1048563⟩,
⟨none,(.x (.st 1 (.t 70) (.t 61))),none,2097139⟩,
⟨(some 71),(.q (.iaddr (.slice 6) (.t 53) (.c (.int .i64 (.ofNat 0))))),none,4194303⟩,
⟨(some 72),(.q (.faddr 4 (.t 71))),none,8388607⟩,
⟨none,(.x (.st 1 (.t 72) (.t 68))),none,16777215⟩])
set_option maxHeartbeats 8000000 in
theorem aIy {S0 W : St} {F : Fr} {inr : Bool} {gb nb n sz : Nat} {ps w : Int} {iv xa xw k0 k1 k2 xp : AV} {rest : List AV} {o : Bool} {l1 l2 : List Int} {Q : Out → bT → St → Prop} (p16 : aC 16 F = .ptr gb 0) (p18 : aC 18 F = .int .i64 w) (hg : W.h.get gb = some (.cells [.int .i64 ps, .sl nb 0 n n o, iv] false 0)) (hb : W.h.get nb = some (.cells ([k0, k1, k2, xa, xw, xp] ++ rest) o sz)) (hn : 0 < n) (ga : gQ 1 S0 W xa l1.length (bD l1)) (gw : gQ 1 S0 W xw l2.length (bD l2)) (hS : Same S0 W) (lg : gb < W.nx) (lb : nb < W.nx) (dg : gb ≠ nb) (dga : aP xa ≠ some gb) (dgw : aP xw ≠ some gb) (dba : aP xa ≠ some nb) (dbw : aP xw ≠ some nb) (daw : ∀ c, aP xa = some c → aP xw ≠ some c) (b1 : l1.length ≤ 1000) (b2 : l2.length ≤ 1000)
  (hQ : ∀ F' Z xa' xw', (∀ j, j < 22 → aC j F' = aC j F) → W.nx ≤ Z.nx → Z.h.get nb = some (.cells ([k0, k1, k2, xa', xw', xp] ++ rest) o sz) → gQ 1 S0 Z xa' (l1 ++ [w]).length (bD (l1 ++ [w])) → gQ 1 S0 Z xw' (l2 ++ [1]).length (bD (l2 ++ [1])) → (∀ c, aP xa' = some c → W.nx ≤ c ∧ aP xw' ≠ some c) → (∀ c, aP xw' = some c → W.nx ≤ c) → (∀ c, c < W.nx → c ≠ nb → aP xa ≠ some c → aP xw ≠ some c → Z.h.get c = W.h.get c) → Q .normal ⟨F', inr⟩ Z) :
  lZ fns aIE ⟨F, inr⟩ W Q := by
 unfold aIE
 refine rT ?_
 have f1 := cQ (p := 1) hg rfl
 have b3 : fK (.ptr nb 3) false 1 W.h = some xa := cQ (p := 3) hb rfl
 have ia : eO (.slice 6) (.sl nb 0 n n o) 0 = some (.ptr nb 0) := by
  show bO (Nat.blt 0 n) (some (AV.ptr nb (0 + 0 * 6))) none = _
  rw [show Nat.blt 0 n = true from Nat.ble_eq_true_of_le hn, aG]
 have sxa := aEN ga
 have sxw := aEN gw
 have nat00 : eF (.int .i64 0) = some 0 := rfl
 simp only [List.length_cons, List.length_nil, rA]
 simp only [↓sU,sD,rE,↓reduceIte,rA, iR, p16, p18, aB, aA, aN, aM, aG, f1, nat00, ia, b3]
 rw [aDr, nE (n := w) (k := .i64) (by simp only [↓sU,sD,rE,↓reduceIte,rA])]
 simp only [dJ]
 obtain ⟨U1, hU1⟩ : ∃ U : St, U = ⟨W.h.set (W.nx + 10) (some (.cells [.int .i64 w] false 0)), W.nx + 25⟩ := ⟨_, rfl⟩
 have sU1 : Same W U1 := by rw [hU1]; exact ⟨by show W.nx ≤ W.nx + 25; omega, fun c hc => by simp only; rw [T.get_set, if_neg (by omega)]⟩
 have gU1 : U1.h.get (W.nx + 10) = some (.cells [.int .i64 w] false 0) := by rw [hU1]; simp only; rw [T.get_set, if_pos rfl]
 have nU1 : U1.nx = W.nx + 25 := by rw [hU1]
 obtain ⟨xa', V1, eA, gA, bA, nA, rA⟩ := gQ.push (bytes := 8) (ga.step sU1) (hS.trans sU1) gU1 (by unfold room; omega) (by unfold room; omega)
 have kA : ∀ c, c < W.nx → aP xa ≠ some c → V1.h.get c = W.h.get c := fun c hc hne => (rA c (by omega) hne).trans (sU1.2 c hc)
 refine kL (v := xa') (S1 := V1) rfl (fun call => ?_) ?_
 ·rw [cR (show Nat.testBit 2032 10 = true by decide), gH]
  simp only [↓sU,sD,rE,↓reduceIte,rA]
  rw [← hU1]
  exact eA
 rw [cR (show Nat.testBit 2032 10 = true by decide)]
 have hg1 := (kA gb lg dga).trans hg
 have hb1 := (kA nb lb dba).trans hb
 have f1' := cQ (p := 1) hg1 rfl
 have b4 : fK (.ptr nb 4) false 1 V1.h = some xw := cQ (p := 4) hb1 rfl
 simp only [↓sU,sD,rE,↓reduceIte,rA, iR, p16, p18, aB, aA, aN, aM, aG, f1', nat00, ia, b4]
 rw [aDr, nE (n := 1) (k := .i64) rfl]
 simp only [dJ]
 obtain ⟨U2, hU2⟩ : ∃ U : St, U = ⟨V1.h.set (W.nx + 17) (some (.cells [.int .i64 1] false 0)), V1.nx⟩ := ⟨_, rfl⟩
 have nU2 : U2.nx = V1.nx := by rw [hU2]
 have kU2 : ∀ c, c ≠ W.nx + 17 → U2.h.get c = V1.h.get c := fun c hc => by rw [hU2]; simp only; rw [T.get_set, if_neg hc]
 have gU2 : U2.h.get (W.nx + 17) = some (.cells [.int .i64 1] false 0) := by rw [hU2]; simp only; rw [T.get_set, if_pos rfl]
 have sS2 : Same S0 U2 := ⟨by have := hS.1; omega, fun c hc => by
  have := hS.1
  rw [kU2 c (by omega), kA c (by omega) (fun e => by have := (ga.blk e).1; omega)]
  exact hS.2 c hc⟩
 have gw2 : gQ 1 S0 U2 xw l2.length (bD l2) := gw.move (by omega) fun c hc => by
  have := (gw.blk hc).2.1
  rw [kU2 c (by omega), kA c (by omega) (fun e => daw c e hc)]
 obtain ⟨xw', V2, eW, gW, bW, nW, rW⟩ := gQ.push (bytes := 8) gw2 sS2 gU2 (by unfold room; omega) (by unfold room; omega)
 have hxa' : ∀ {c}, aP xa' = some c → c = U1.nx := fun hc => by rw [bA] at hc; exact (Option.some.inj hc).symm
 have hxw' : ∀ {c}, aP xw' = some c → c = U2.nx := fun hc => by rw [bW] at hc; exact (Option.some.inj hc).symm
 have xwl : ∀ {c}, aP xw = some c → c < W.nx := fun hc => (gw.blk hc).2.1
 have kB : ∀ c, c < W.nx → aP xa ≠ some c → aP xw ≠ some c → V2.h.get c = W.h.get c := fun c hc h1 h2 => by
  rw [rW c (by omega) h2, kU2 c (by omega)]
  exact kA c hc h1
 refine kL (v := xw') (S1 := V2) (show Nat.testBit 262128 11 = true by decide) (fun call => ?_) ?_
 ·rw [cR (show Nat.testBit 262128 17 = true by decide), gH]
  simp only [↓sU,sD,rE,↓reduceIte,rA]
  rw [← hU2]
  exact eW
 rw [cR (show Nat.testBit 262128 17 = true by decide)]
 have hg2 := (kB gb lg dga dgw).trans hg
 have hb2 := (kB nb lb dba dbw).trans hb
 have gAc : xa'.cells = some [xa'] := gQ.cells gA
 have gWc : xw'.cells = some [xw'] := gQ.cells gW
 simp only [↓sU,sD,rE,↓reduceIte,rA, iR, p16, p18, aB, aA, aN, aM, aG, nat00, ia]
 refine kL (v := .undef) (S1 := ⟨V2.h.set nb (some (.cells ([k0, k1, k2, xa', xw, xp] ++ rest) o sz)), V2.nx⟩) (show Nat.testBit 2097139 18 = true by decide) (fun call => ?_) ?_
 ·rw [dT]
  simp only [↓sU,sD,rE,↓reduceIte,rA, bX, gAc, aF]
  exact stc (cs := [k0, k1, k2, xa, xw, xp] ++ rest) (p := 3) (S := V2) hb2 (by simp)
 simp only [↓sU,sD,rE,↓reduceIte,rA, iR, p16, p18, aB, aA, aN, aM, aG, nat00, ia, bX]
 refine kL (v := .undef) (S1 := ⟨(V2.h.set nb (some (.cells ([k0, k1, k2, xa', xw, xp] ++ rest) o sz))).set nb (some (.cells ([k0, k1, k2, xa', xw', xp] ++ rest) o sz)), V2.nx⟩) (show Nat.testBit 16777215 21 = true by decide) (fun call => ?_) ?_
 ·rw [dT]
  simp only [↓sU,sD,rE,↓reduceIte,rA, bX, gWc, aF]
  exact stc (cs := [k0, k1, k2, xa', xw, xp] ++ rest) (p := 4) (S := ⟨V2.h.set nb (some (.cells ([k0, k1, k2, xa', xw, xp] ++ rest) o sz)), V2.nx⟩) (by simp only; rw [T.get_set, if_pos rfl]) (by simp)
 rw [jQ]
 refine ⟨?_, ?_⟩
 ·have hg3 : (V2.h.set nb (some (.cells ([k0, k1, k2, xa', xw, xp] ++ rest) o sz))).get gb = some (.cells [.int .i64 ps, .sl nb 0 n n o, iv] false 0) := by rw [T.get_set, if_neg dg]; exact hg2
  have f2 := cQ (p := 1) hg2 rfl
  have f3 := cQ (p := 1) hg3 rfl
  have b4W : fK (.ptr nb 4) false 1 W.h = some xw := cQ (p := 4) hb rfl
  have sn := mP nb 0 n n o
  refine lE fun l hl => ?_
  simp only [List.mem_cons, List.not_mem_nil, or_false] at hl
  simp only [List.reverse_cons, List.reverse_nil, List.nil_append, List.cons_append]
  rcases hl with rfl | rfl | rfl | rfl | rfl | rfl
  ·exact oD (show Nat.testBit 61440 11 = false by decide) (iF (by simp only [↓sU,sD,rE,↓reduceIte,rA]) b4W sxw) (pS (show Nat.testBit 61440 18 = false by decide) (iF (by simp only [↓sU,sD,rE,↓reduceIte,rA]) b4 sxw) (show Nat.testBit 262128 16 = true by decide))
  ·exact oD (show Nat.testBit 4096 11 = false by decide) (iF (by simp only [↓sU,sD,rE,↓reduceIte,rA]) f1 sn) (pS (show Nat.testBit 4096 18 = false by decide) (iF (by simp only [↓sU,sD,rE,↓reduceIte,rA]) f1' sn) (show Nat.testBit 262128 13 = true by decide))
  ·exact pS (show Nat.testBit 240 11 = false by decide) (iF (by simp only [↓sU,sD,rE,↓reduceIte,rA]) b3 sxa) (show Nat.testBit 2032 8 = true by decide)
  ·exact pS (show Nat.testBit 16 11 = false by decide) (iF (by simp only [↓sU,sD,rE,↓reduceIte,rA]) f1 sn) (show Nat.testBit 2032 5 = true by decide)
  ·exact oD (show Nat.testBit 4 11 = false by decide) (iF (by simp only [↓sU,sD,rE,↓reduceIte,rA]) f1 sn) (oD (show Nat.testBit 4 18 = false by decide) (iF (by simp only [↓sU,sD,rE,↓reduceIte,rA]) f1' sn) (oD (show Nat.testBit 4 21 = false by decide) (iF (by simp only [↓sU,sD,rE,↓reduceIte,rA]) f2 sn) (pS (show Nat.testBit 4 24 = false by decide) (iF (by simp only [↓sU,sD,rE,↓reduceIte,rA]) f3 sn) (show Nat.testBit 16777215 3 = true by decide))))
  ·exact oD (show Nat.testBit 1 11 = false by decide) (iF (by simp only [↓sU,sD,rE,↓reduceIte,rA]) f1 sn) (oD (show Nat.testBit 1 18 = false by decide) (iF (by simp only [↓sU,sD,rE,↓reduceIte,rA]) f1' sn) (pS (show Nat.testBit 1 21 = false by decide) (iF (by simp only [↓sU,sD,rE,↓reduceIte,rA]) f2 sn) (show Nat.testBit 2097139 1 = true by decide)))
 ·simp only [bX, fX]
  have kZ : ∀ c, c ≠ nb → ((V2.h.set nb (some (.cells ([k0, k1, k2, xa', xw, xp] ++ rest) o sz))).set nb (some (.cells ([k0, k1, k2, xa', xw', xp] ++ rest) o sz))).get c = V2.h.get c := fun c hc => by rw [T.get_set, if_neg hc, T.get_set, if_neg hc]
  refine hQ _ _ xa' xw' (fun j hj => ?_) (by show W.nx ≤ V2.nx; omega) (by simp only; rw [T.get_set, if_pos rfl]) (gA.move (by show V1.nx ≤ V2.nx; omega) fun c hc => ?_) (gW.move (Nat.le_refl _) fun c hc => ?_) (fun c hc => ⟨by have := hxa' hc; omega, fun e => by have := hxa' hc; have := hxw' e; omega⟩) (fun c hc => by have := hxw' hc; omega) fun c hc h1 h2 h3 => (kZ c h1).trans (kB c hc h2 h3)
  ·repeat rw [bJ, if_neg (by omega)]
  ·have := hxa' hc
   simp only
   rw [kZ c (by omega), rW c (by omega) (fun e => by have := xwl e; omega), kU2 c (by omega)]
  ·have := hxw' hc
   exact kZ c (by omega)
end Go.Ev.Gl
namespace Go.Ev.Gl
variable {fns : T cA}
theorem aLo {S : St} {v : AV} {l : List Int} {k : Nat} (h : bS .i64 S v l) (hk : k < l.length) (hw : ∀ c, aP v = some c → Wr S c) : ∃ b off, aP v = some b ∧ b < S.nx ∧ eO (.slice 1) v k = some (.ptr b off) ∧ fK (.ptr b off) false 1 S.h = some (.int .i64 (l.getD k 0)) ∧ ∀ (w : Int) (n : Nat), S.nx ≤ n → ∃ X, (∀ S', S'.h = S.h → oH (.ptr b off) 1 [.int .i64 w] S' = some (.undef, ⟨X, S'.nx⟩)) ∧ (∀ c, c ≠ b → X.get c = S.h.get c) ∧ bS .i64 ⟨X, n⟩ v (l.set k w) ∧ ∀ c, aP v = some c → Wr ⟨X, n⟩ c := by
 have ia := h.iaddr hk
 have ld := h.ld hk
 rcases h with ⟨h0, _⟩ | ⟨b, off, cap, o, cs, rfl, hc, hb, hcs, hel⟩
 ·rw [h0] at hk; simp at hk
 ·simp only [aAt] at ia ld
  obtain ⟨cs', o', sz, hg⟩ := hw b rfl
  have e : cs' = cs := by
   unfold cP at hcs
   rw [hg] at hcs
   exact Option.some.inj hcs
  subst e
  have hlt : off + k * 1 < cs'.length := by
   have := hel k l[k] (List.getElem?_eq_getElem hk)
   have := (List.getElem?_eq_some_iff.1 this).1
   omega
  refine ⟨b, off + k * 1, rfl, hb, ia, ld, fun w n hn => ⟨S.h.set b (some (.cells (cs'.set (off + k * 1) (.int .i64 w)) o' sz)), fun S' hS' => ?_, fun c hne => by rw [T.get_set, if_neg hne], ?_, fun c hcc => ?_⟩⟩
  ·have := stc (S := S') (b := b) (p := off + k * 1) (w := .int .i64 w) (cs := cs') (o := o') (sz := sz) (by rw [hS']; exact hg) hlt
   rw [hS'] at this
   exact this
  ·refine .inr ⟨b, off, cap, o, cs'.set (off + k * 1) (.int .i64 w), by rw [List.length_set], by rw [List.length_set]; exact hc, Nat.lt_of_lt_of_le hb hn, by unfold cP; simp only; rw [T.get_set, if_pos rfl]; rfl, fun i x hi => ?_⟩
   rw [List.getElem?_set] at hi ⊢
   by_cases e : k = i
   ·subst e
    rw [if_pos rfl, if_pos hk] at hi
    cases hi
    rw [if_pos (by omega), if_pos hlt]
   ·rw [if_neg e] at hi
    rw [if_neg (by omega)]
    exact hel i x hi
  ·cases hcc
   exact ⟨_, _, _, by simp only; rw [T.get_set, if_pos rfl]⟩
def aNZ (X : St) (P : Nat → Prop) (_ : St) (e : List AV) (a : cM) : Prop := ∃ xa xw xp, e = [.int .i64 a.kind, .int .i64 a.player, .int .i64 a.info, xa, xw, xp] ∧ bS .i64 X xa a.next ∧ bS .i64 X xw a.weights ∧ bS .i64 X xp a.pay ∧ (∀ c, (aP xa = some c ∨ aP xw = some c ∨ aP xp = some c) → P c) ∧ ∀ c, aP xa = some c → aP xw ≠ some c ∧ aP xp ≠ some c
theorem lC.isF {X0 X : St} {P : Nat → Prop} {pv : AV} {cs : List AV} {l : List cM} (h : lC X P cs l) (hD : aC2 cs l.length) (hg : gQ 6 X0 X pv l.length cs) : aQ 6 (aNZ X P) X pv l := by
 rcases hg with ⟨rfl, h0, _⟩ | ⟨b, rfl, _, hb, hc, _⟩
 ·exact .inl ⟨List.length_eq_zero_iff.1 h0, .inl rfl⟩
 ·refine .inr ⟨b, 0, l.length, true, cs, rfl, Nat.le_refl _, hb, by unfold cP; rw [hc]; rfl, fun j a hj => ?_⟩
  obtain ⟨e, e1, e2, xa, xw, xp, h3, h4, h5, h6, h7⟩ := h.2 j a hj
  have hlt := (List.getElem?_eq_some_iff.1 hj).1
  exact ⟨e, e1, fun q x hq => by rw [Nat.zero_add]; exact e2 q x hq, xa, xw, xp, h3, h4, h5, h6, h7, hD j hlt xa xw xp (e2 3 xa (by rw [h3]; rfl)) (e2 4 xw (by rw [h3]; rfl)) (e2 5 xp (by rw [h3]; rfl))⟩
def tU (cs : List AV) (I : List gR) : Prop := cs.length = I.length * 2 ∧ ∀ (j : Nat) (a : gR), I[j]? = some a → ∀ q x, [AV.int .i64 a.player, .int .i64 a.actions][q]? = some x → cs[j * 2 + q]? = some x
theorem tU.app {cs ds : List AV} {I J : List gR} (h : tU cs I) (h' : tU ds J) : tU (cs ++ ds) (I ++ J) := by
 refine ⟨by rw [List.length_append, h.1, h'.1, List.length_append, Nat.add_mul], fun j a hj q x hq => ?_⟩
 have hq2 : q < 2 := (List.getElem?_eq_some_iff.1 hq).1
 by_cases e : j < I.length
 ·rw [List.getElem?_append_left e] at hj
  have : (j + 1) * 2 ≤ I.length * 2 := Nat.mul_le_mul_right _ e
  rw [List.getElem?_append_left (by rw [h.1]; omega)]
  exact h.2 j a hj q x hq
 ·rw [List.getElem?_append_right (by omega)] at hj
  have := h'.2 _ a hj q x hq
  rw [List.getElem?_append_right (by rw [h.1]; omega), h.1]
  rw [show j * 2 + q - I.length * 2 = (j - I.length) * 2 + q by omega]
  exact this
theorem tU.is {X0 X : St} {pv : AV} {cs : List AV} {I : List gR} (h : tU cs I) (hg : gQ 2 X0 X pv I.length cs) : aQ 2 dB X pv I := by
 rcases hg with ⟨rfl, h0, _⟩ | ⟨b, rfl, _, hb, hc, _⟩
 ·exact .inl ⟨List.length_eq_zero_iff.1 h0, .inl rfl⟩
 ·exact .inr ⟨b, 0, I.length, true, cs, rfl, Nat.le_refl _, hb, by unfold cP; rw [hc]; rfl, fun j a hj => ⟨_, rfl, fun q x hq => by rw [Nat.zero_add]; exact h.2 j a hj q x hq, rfl⟩⟩
theorem aJG {S : St} {v : AV} {I : List gR} (h : aQ 2 dB S v I) : ∃ new, kJ v = some I.length ∧ dS v S.h 2 I.length = some new ∧ tU new I := by
 obtain ⟨new, h1, h2, h3⟩ := aMt (by decide) h
 refine ⟨new, h1, h2, ?_, fun j a hj q x hq => ?_⟩
 ·rcases h with ⟨rfl, h | h⟩ | ⟨b, off, cap, o, cs, rfl, _⟩
  ·subst h
   have h2 : some [] = some new := h2
   cases h2
   rfl
  ·subst h
   have h2 : some [] = some new := h2
   cases h2
   rfl
  ·have h2 : aU (cP S.h b) (fun cs => cut cs off (I.length * 2)) = some new := h2
   obtain ⟨cs', e1, e2⟩ := aD h2
   unfold cut at e2
   rw [fJ, fT] at e2
   split at e2
   ·rename_i hle
    cases e2
    rw [List.length_drop] at hle
    rw [List.length_take, List.length_drop]
    omega
   ·cases e2
 ·obtain ⟨e, e1, e2, e3⟩ := h3 j a hj
  have e3 : e = [.int .i64 a.player, .int .i64 a.actions] := e3
  subst e3
  exact e2 q x hq
theorem aH2 {S0 S : St} {v x : AV} {cs : List AV} {I J : List gR} (h : gQ 2 S0 S v I.length cs) (hI : tU cs I) (hS : Same S0 S) (hx : aQ 2 dB S x J) (hb : I.length + J.length ≤ 1000000) : ∃ v' S' cs', fV 16 2 v x S = some (v', S') ∧ gQ 2 S0 S' v' (I ++ J).length cs' ∧ tU cs' (I ++ J) ∧ S.nx ≤ S'.nx ∧ (∀ c, c < S.nx → aP v ≠ some c → S'.h.get c = S.h.get c) ∧ ∀ c, aP v' = some c → aP v = some c ∨ S.nx ≤ c := by
 obtain ⟨new, e1, e2, e3⟩ := aJG hx
 rcases Nat.eq_zero_or_pos J.length with h0 | hp
 ·have hJ : J = [] := List.length_eq_zero_iff.1 h0
  subst hJ
  have hn : new = [] := List.length_eq_zero_iff.1 (by rw [e3.1]; rfl)
  subst hn
  rw [List.append_nil]
  refine ⟨v, S, cs, ?_, h, hI, Nat.le_refl _, fun _ _ _ => rfl, fun c hc => .inl hc⟩
  unfold fV
  rw [e1, aF, e2, aF]
  rcases h with ⟨rfl, _⟩ | ⟨b, rfl, _, _, _, _⟩
  ·rfl
  ·show kD 16 2 b 0 I.length I.length true 0 [] S = _
   unfold kD
   rw [Nat.add_zero, Nat.ble_eq_true_of_le (Nat.le_refl _), aG]
   rfl
 ·obtain ⟨v', S', a1, a2, _, a4, a5, a6⟩ := gQ.appB (bytes := 16) h hS e1 e2 (by rw [e3.1]) hp (by unfold room; omega) (by unfold room; omega)
  exact ⟨v', S', cs ++ new, a1, by rw [List.length_append]; exact a2, hI.app e3, a4, a5, fun c hc => .inr (by rw [a6] at hc; cases hc; exact Nat.le_refl _)⟩
end Go.Ev.Gl
namespace Go.Ev.Gl
variable {fns : T cA}
structure TwB (S5 X : St) (gb nb n : Nat) (o : Bool) (sz : Nat) (ps : Int) (xa xw iv : AV) (cs ics : List AV) (A W : List Int) (L : List cM) (I : List gR) : Prop where
 same : Same S5 X
 lg : S5.nx ≤ gb ∧ gb < X.nx
 lb : S5.nx ≤ nb ∧ nb < X.nx
 g : X.h.get gb = some (.cells [.int .i64 ps, .sl nb 0 n n o, iv] false 0)
 b : X.h.get nb = some (.cells ([.int .i64 1, .int .i64 0, .int .i64 0, xa, xw, .nilsl] ++ cs) o sz)
 hn : n = L.length + 1
 osz : o = true → sz = 6
 nod : lC X (fun c => S5.nx ≤ c ∧ c ≠ gb ∧ c ≠ nb ∧ aP xa ≠ some c ∧ aP xw ≠ some c ∧ aP iv ≠ some c) cs L
 gxa : gQ 1 S5 X xa A.length (bD A)
 gxw : gQ 1 S5 X xw W.length (bD W)
 giv : gQ 2 S5 X iv I.length ics
 inf : tU ics I
 dgb : gb ≠ nb
 da : aP xa ≠ some gb ∧ aP xa ≠ some nb
 dw : aP xw ≠ some gb ∧ aP xw ≠ some nb
 di : aP iv ≠ some gb ∧ aP iv ≠ some nb
 daw : ∀ c, aP xa = some c → aP xw ≠ some c ∧ aP iv ≠ some c
 dwi : ∀ c, aP xw = some c → aP iv ≠ some c
section
variable {S5 X Z : St} {gb nb n sz : Nat} {o : Bool} {ps w : Int} {xa xw iv : AV} {cs ics : List AV} {A W : List Int} {L : List cM} {I : List gR}
theorem TwB.step (h : TwB S5 X gb nb n o sz ps xa xw iv cs ics A W L I) (hn : X.nx ≤ Z.nx) (hk : ∀ c, c < X.nx → S5.nx ≤ c → Z.h.get c = X.h.get c) (hs : Same S5 Z) : TwB S5 Z gb nb n o sz ps xa xw iv cs ics A W L I where
 same := hs
 lg := ⟨h.lg.1, Nat.lt_of_lt_of_le h.lg.2 hn⟩
 lb := ⟨h.lb.1, Nat.lt_of_lt_of_le h.lb.2 hn⟩
 g := (hk _ h.lg.2 h.lg.1).trans h.g
 b := (hk _ h.lb.2 h.lb.1).trans h.b
 hn := h.hn
 osz := h.osz
 nod := h.nod.move hn fun c hc hP => ⟨hk c hc hP.1, hP⟩
 gxa := h.gxa.move hn fun c hc => hk c (h.gxa.blk hc).2.1 (h.gxa.blk hc).1
 gxw := h.gxw.move hn fun c hc => hk c (h.gxw.blk hc).2.1 (h.gxw.blk hc).1
 giv := h.giv.move hn fun c hc => hk c (h.giv.blk hc).2.1 (h.giv.blk hc).1
 inf := h.inf
 dgb := h.dgb
 da := h.da
 dw := h.dw
 di := h.di
 daw := h.daw
 dwi := h.dwi
theorem TwB.sm (h : TwB S5 X gb nb n o sz ps xa xw iv cs ics A W L I) (hs : Same X Z) : TwB S5 Z gb nb n o sz ps xa xw iv cs ics A W L I := h.step hs.1 (fun c hc _ => hs.2 c hc) (h.same.trans hs)
theorem TwB.root {xa' xw' : AV} (h : TwB S5 X gb nb n o sz ps xa xw iv cs ics A W L I) (hn : X.nx ≤ Z.nx) (hb : Z.h.get nb = some (.cells ([.int .i64 1, .int .i64 0, .int .i64 0, xa', xw', .nilsl] ++ cs) o sz)) (ga : gQ 1 S5 Z xa' (A ++ [w]).length (bD (A ++ [w]))) (gw : gQ 1 S5 Z xw' (W ++ [1]).length (bD (W ++ [1]))) (ba : ∀ c, aP xa' = some c → X.nx ≤ c ∧ aP xw' ≠ some c) (bw : ∀ c, aP xw' = some c → X.nx ≤ c) (hk : ∀ c, c < X.nx → c ≠ nb → aP xa ≠ some c → aP xw ≠ some c → Z.h.get c = X.h.get c) : TwB S5 Z gb nb n o sz ps xa' xw' iv cs ics (A ++ [w]) (W ++ [1]) L I := by
 have lg := h.lg
 have lb := h.lb
 have na : ∀ {c}, c < X.nx → aP xa' ≠ some c := fun hc e => by have := (ba _ e).1; omega
 have nw : ∀ {c}, c < X.nx → aP xw' ≠ some c := fun hc e => by have := bw _ e; omega
 exact {
  same := ⟨Nat.le_trans h.same.1 hn, fun c hc => by
   have h0 := h.same.1
   rw [hk c (by omega) (by omega) (fun e => by have := (h.gxa.blk e).1; omega) (fun e => by have := (h.gxw.blk e).1; omega)]
   exact h.same.2 c hc⟩
  lg := ⟨lg.1, by omega⟩
  lb := ⟨lb.1, by omega⟩
  g := (hk gb lg.2 h.dgb h.da.1 h.dw.1).trans h.g
  b := hb
  hn := h.hn
  osz := h.osz
  nod := h.nod.move hn fun c hc hP => ⟨hk c hc hP.2.2.1 hP.2.2.2.1 hP.2.2.2.2.1, hP.1, hP.2.1, hP.2.2.1, na hc, nw hc, hP.2.2.2.2.2⟩
  gxa := ga
  gxw := gw
  giv := h.giv.move hn fun c hc => hk c (h.giv.blk hc).2.1 (fun e => h.di.2 (by rw [hc, e])) (fun e => (h.daw c e).2 hc) fun e => h.dwi c e hc
  inf := h.inf
  dgb := h.dgb
  da := ⟨na lg.2, na lb.2⟩
  dw := ⟨nw lg.2, nw lb.2⟩
  di := h.di
  daw := fun c hc => ⟨(ba c hc).2, fun e => by have := (h.giv.blk e).2.1; have := (ba c hc).1; omega⟩
  dwi := fun c hc e => by have := (h.giv.blk e).2.1; have := bw c hc; omega }
theorem TwB.info {iv' : AV} {ics' : List AV} {J : List gR} (h : TwB S5 X gb nb n o sz ps xa xw iv cs ics A W L I) (hn : X.nx ≤ Z.nx) (gi : gQ 2 S5 Z iv' J.length ics') (hi : tU ics' J) (hk : ∀ c, c < X.nx → aP iv ≠ some c → Z.h.get c = X.h.get c) (hb : ∀ c, aP iv' = some c → aP iv = some c ∨ X.nx ≤ c) : TwB S5 ⟨Z.h.set gb (some (.cells [.int .i64 ps, .sl nb 0 n n o, iv'] false 0)), Z.nx⟩ gb nb n o sz ps xa xw iv' cs ics' A W L J := by
 have lg := h.lg
 have lb := h.lb
 have kZ : ∀ c, c < X.nx → c ≠ gb → aP iv ≠ some c → (Z.h.set gb (some (.cells [.int .i64 ps, .sl nb 0 n n o, iv'] false 0))).get c = X.h.get c := fun c hc h1 h2 => by rw [T.get_set, if_neg h1]; exact hk c hc h2
 have ni : ∀ {c}, c < X.nx → aP iv ≠ some c → aP iv' ≠ some c := fun hc h1 e => by
  rcases hb _ e with h2 | h2
  ·exact h1 h2
  ·omega
 have gil : ∀ {c}, aP iv = some c → S5.nx ≤ c := fun hc => (h.giv.blk hc).1
 exact {
  same := ⟨Nat.le_trans h.same.1 hn, fun c hc => by
   have h0 := h.same.1
   simp only
   rw [kZ c (by omega) (by omega) (fun e => by have := gil e; omega)]
   exact h.same.2 c hc⟩
  lg := ⟨lg.1, by show gb < Z.nx; omega⟩
  lb := ⟨lb.1, by show nb < Z.nx; omega⟩
  g := by simp only; rw [T.get_set, if_pos rfl]
  b := (kZ nb lb.2 h.dgb.symm h.di.2).trans h.b
  hn := h.hn
  osz := h.osz
  nod := h.nod.move hn fun c hc hP => ⟨kZ c hc hP.2.1 hP.2.2.2.2.2, hP.1, hP.2.1, hP.2.2.1, hP.2.2.2.1, hP.2.2.2.2.1, ni hc hP.2.2.2.2.2⟩
  gxa := h.gxa.move hn fun c hc => kZ c (h.gxa.blk hc).2.1 (fun e => h.da.1 (by rw [hc, e])) (h.daw c hc).2
  gxw := h.gxw.move hn fun c hc => kZ c (h.gxw.blk hc).2.1 (fun e => h.dw.1 (by rw [hc, e])) (h.dwi c hc)
  giv := gi.move (Nat.le_refl _) fun c hc => by
   simp only
   rw [T.get_set, if_neg (fun e => ni lg.2 h.di.1 (by rw [hc, e]))]
  inf := hi
  dgb := h.dgb
  da := h.da
  dw := h.dw
  di := ⟨ni lg.2 h.di.1, ni lb.2 h.di.2⟩
  daw := fun c hc => ⟨(h.daw c hc).1, ni (h.gxa.blk hc).2.1 (h.daw c hc).2⟩
  dwi := fun c hc => ni (h.gxw.blk hc).2.1 (h.dwi c hc) }
theorem aHx {S : St} {bytes t : Nat} {new : List AV} (hb : S.h.get nb = some (.cells cs o sz)) (hl : cs.length = n * 6) (hos : o = true → sz = 6) (ht : S.h.get t = some (.cells new false 0)) (hn : new.length = 6) (h1 : n + 1 ≤ room) (h2 : (n + 1) * bytes ≤ room) : ∃ S', fV bytes 6 (.sl nb 0 n n o) (.sl t 0 1 1 false) S = some (.sl S.nx 0 (n + 1) (n + 1) true, S') ∧ S'.nx = S.nx + 1 ∧ S'.h.get S.nx = some (.cells (cs ++ new) true 6) ∧ ∀ c, c < S.nx → c ≠ nb → S'.h.get c = S.h.get c := by
 have hs := aIw (n := 6) ht hn
 have e2 : Nat.ble (n + 1) n = false := by rw [Bool.eq_false_iff]; intro h; have := Nat.le_of_ble_eq_true h; omega
 have e3 : cut cs 0 (n * 6) = some cs := by
  unfold cut
  rw [fJ, fT, List.drop_zero, if_pos (by omega), List.take_of_length_le (by omega)]
 cases o with
 | false =>
  refine ⟨⟨S.h.set S.nx (some (.cells (cs ++ new) true 6)), S.nx + 1⟩, ?_, rfl, by simp only; rw [T.get_set, if_pos rfl], fun c hc _ => by simp only; rw [T.get_set, if_neg (by omega)]⟩
  show (aU (some 1) fun j => aU (dS (.sl t 0 1 1 false) S.h 6 j) fun new => zM (.sl nb 0 n n false) bytes 6 j new S) = _
  rw [aF, hs, aF]
  show kD bytes 6 nb 0 n n false 1 new S = _
  unfold kD
  rw [e2, aM, Nat.ble_eq_true_of_le h1, aG, Nat.ble_eq_true_of_le h2, aG, hb, aF]
  simp only [vC, e3, aF, aM, grown, fB]
 | true =>
  have hz := hos rfl
  subst hz
  refine ⟨⟨(S.h.set nb none).set S.nx (some (.cells (cs ++ new) true 6)), S.nx + 1⟩, ?_, rfl, by simp only; rw [T.get_set, if_pos rfl], fun c hc hne => by simp only; rw [T.get_set, if_neg (by omega), T.get_set, if_neg hne]⟩
  show (aU (some 1) fun j => aU (dS (.sl t 0 1 1 false) S.h 6 j) fun new => zM (.sl nb 0 n n true) bytes 6 j new S) = _
  rw [aF, hs, aF]
  show kD bytes 6 nb 0 n n true 1 new S = _
  unfold kD
  have e4 : Nat.beq (0 + n * 6) (jM cs) = true := by rw [dR, hl, Nat.beq_eq]; omega
  have e5 : Nat.beq 6 6 = true := Nat.beq_refl 6
  rw [e2, aM, Nat.ble_eq_true_of_le h1, aG, Nat.ble_eq_true_of_le h2, aG, hb, aF]
  simp only [vC, e3, aF, aG, e4, e5, grown, fB]
theorem TwB.push {e : List AV} {a : cM} {m : Nat} (h : TwB S5 X gb nb n o sz ps xa xw iv cs ics A W L I) (hn : X.nx ≤ m) (hm : m < Z.nx) (he : yK Z (fun c => S5.nx ≤ c ∧ c ≠ gb ∧ c < m ∧ aP xa ≠ some c ∧ aP xw ≠ some c ∧ aP iv ≠ some c) e a) (hb : Z.h.get m = some (.cells (([.int .i64 1, .int .i64 0, .int .i64 0, xa, xw, .nilsl] ++ cs) ++ e) true 6)) (hk : ∀ c, c < X.nx → c ≠ nb → Z.h.get c = X.h.get c) : TwB S5 ⟨Z.h.set gb (some (.cells [.int .i64 ps, .sl m 0 (n + 1) (n + 1) true, iv] false 0)), Z.nx⟩ gb m (n + 1) true 6 ps xa xw iv (cs ++ e) ics A W (L ++ [a]) I := by
 have lg := h.lg
 have lb := h.lb
 have kZ : ∀ c, c < X.nx → c ≠ gb → c ≠ nb → (Z.h.set gb (some (.cells [.int .i64 ps, .sl m 0 (n + 1) (n + 1) true, iv] false 0))).get c = X.h.get c := fun c hc h1 h2 => by rw [T.get_set, if_neg h1]; exact hk c hc h2
 have la : ∀ {c}, aP xa = some c → c < X.nx := fun hc => (h.gxa.blk hc).2.1
 have lw : ∀ {c}, aP xw = some c → c < X.nx := fun hc => (h.gxw.blk hc).2.1
 have li : ∀ {c}, aP iv = some c → c < X.nx := fun hc => (h.giv.blk hc).2.1
 exact {
  same := ⟨by have := h.same.1; show S5.nx ≤ Z.nx; omega, fun c hc => by
   have h0 := h.same.1
   simp only
   rw [kZ c (by omega) (by omega) (by omega)]
   exact h.same.2 c hc⟩
  lg := ⟨lg.1, by show gb < Z.nx; omega⟩
  lb := ⟨by have := h.same.1; omega, hm⟩
  g := by simp only; rw [T.get_set, if_pos rfl]
  b := by
   simp only
   rw [T.get_set, if_neg (by omega), hb, List.append_assoc]
  hn := by rw [h.hn, List.length_append]; rfl
  osz := fun _ => rfl
  nod := lC.push (h.nod.move (by show X.nx ≤ Z.nx; omega) fun c hc hP => ⟨kZ c hc hP.2.1 hP.2.2.1, hP.1, hP.2.1, by omega, hP.2.2.2⟩) (he.move (Nat.le_refl _) fun c _ hP => ⟨by simp only; rw [T.get_set, if_neg hP.2.1], hP.1, hP.2.1, by have := hP.2.2.1; omega, hP.2.2.2⟩)
  gxa := h.gxa.move (by show X.nx ≤ Z.nx; omega) fun c hc => kZ c (la hc) (fun e => h.da.1 (by rw [hc, e])) (fun e => h.da.2 (by rw [hc, e]))
  gxw := h.gxw.move (by show X.nx ≤ Z.nx; omega) fun c hc => kZ c (lw hc) (fun e => h.dw.1 (by rw [hc, e])) (fun e => h.dw.2 (by rw [hc, e]))
  giv := h.giv.move (by show X.nx ≤ Z.nx; omega) fun c hc => kZ c (li hc) (fun e => h.di.1 (by rw [hc, e])) (fun e => h.di.2 (by rw [hc, e]))
  inf := h.inf
  dgb := by omega
  da := ⟨h.da.1, fun e => by have := la e; omega⟩
  dw := ⟨h.dw.1, fun e => by have := lw e; omega⟩
  di := ⟨h.di.1, fun e => by have := li e; omega⟩
  daw := h.daw
  dwi := h.dwi }
theorem TwB.nodes (h : TwB S5 X gb nb n o sz ps xa xw iv cs ics A W L I) : aQ 6 cO X (.sl nb 0 n n o) (⟨1, 0, 0, A, W, []⟩ :: L) := by
 have hl : n = (⟨1, 0, 0, A, W, []⟩ :: L : List cM).length := by rw [List.length_cons]; exact h.hn
 refine .inr ⟨nb, 0, n, o, _, by rw [← hl], by omega, h.lb.2, by unfold cP; rw [h.b]; rfl, fun j a hj => ?_⟩
 cases j with
 | zero =>
  cases hj
  refine ⟨[.int .i64 1, .int .i64 0, .int .i64 0, xa, xw, .nilsl], rfl, fun q x hq => ?_, xa, xw, .nilsl, rfl, h.gxa.is, h.gxw.is, .inl ⟨rfl, .inl rfl⟩⟩
  have := (List.getElem?_eq_some_iff.1 hq).1
  rw [show 0 + 0 * 6 + q = q by omega, List.getElem?_append_left this]
  exact hq
 | succ j =>
  have hj : L[j]? = some a := hj
  obtain ⟨e, e1, e2, xa', xw', xp', h3, h4, h5, h6, _⟩ := h.nod.2 j a hj
  refine ⟨e, e1, fun q x hq => ?_, xa', xw', xp', h3, h4, h5, h6⟩
  have := e2 q x hq
  rw [List.getElem?_append_right (by show 6 ≤ _; omega)]
  show cs[0 + (j + 1) * 6 + q - 6]? = some x
  rw [show 0 + (j + 1) * 6 + q - 6 = j * 6 + q by omega]
  exact this
end
end Go.Ev.Gl
namespace Go.Ev.Gl
variable {fns : T cA}
noncomputable def aME : List AO := [⟨(some 102),(.q (.faddr 3 (.t 20))),none,0⟩,
⟨(some 103),(.q (.ld false 1 (.t 102))),none,1⟩,
⟨(some 104),(.q (.mv (.t 21))),none,0⟩,
⟨(some 105),(.q (.faddr 3 (.t 20))),none,0⟩,
⟨(some 106),(.q (.ld false 1 (.t 105))),none,8⟩,
⟨(some 107),(.q (.mv (.t 21))),none,0⟩,
⟨(some 108),(.q (.iaddr (.slice 1) (.t 106) (.t 107))),none,56⟩,
⟨(some 109),(.q (.ld false 1 (.t 108))),none,120⟩,
⟨(some 110),(.q (.mv (.t 18))),none,0⟩,
⟨(some 111),(.q (.bin .add (.p .int) (.t 109) (.t 110))),none,504⟩,
⟨(some 112),(.q (.iaddr (.slice 1) (.t 103) (.t 104))),none,1023⟩]
noncomputable def aLV : AC := (.block 4 (.loop (.seq (.seq (.reg [⟨(some 95),(.q (.mv (.t 21))),none,0⟩,
⟨(some 96),(.q (.faddr 3 (.t 20))),none,0⟩,
⟨(some 97),(.q (.ld false 1 (.t 96))),none,0⟩,
⟨(some 98),(.q (.lenSl (.t 97))),none,0⟩,
⟨(some 99),(.q (.bin .lss (.p .int) (.t 95) (.t 98))),none,0⟩])
(.cond (.t 99) .skip (.exit 4)))
(.seq (.block 5 (.drw [⟨(some 102),(.q (.faddr 3 (.t 20))),none,0⟩,
⟨(some 103),(.q (.ld false 1 (.t 102))),none,1⟩,
⟨(some 104),(.q (.mv (.t 21))),none,0⟩,
⟨(some 105),(.q (.faddr 3 (.t 20))),none,0⟩,
⟨(some 106),(.q (.ld false 1 (.t 105))),none,8⟩,
⟨(some 107),(.q (.mv (.t 21))),none,0⟩,
⟨(some 108),(.q (.iaddr (.slice 1) (.t 106) (.t 107))),none,56⟩,
⟨(some 109),(.q (.ld false 1 (.t 108))),none,120⟩,
⟨(some 110),(.q (.mv (.t 18))),none,0⟩,
⟨(some 111),(.q (.bin .add (.p .int) (.t 109) (.t 110))),none,504⟩,
⟨(some 112),(.q (.iaddr (.slice 1) (.t 103) (.t 104))),none,1023⟩,
⟨none,(.x (.st 1 (.t 112) (.t 111))),none,2047⟩]))
(.reg [⟨(some 100),(.q (.mv (.t 21))),none,0⟩,
⟨(some 101),(.q (.bin .add (.p .int) (.t 100) (.c (.int .i64 (.ofNat 1))))),none,0⟩,
⟨(some 21),(.q (.mv (.t 101))),none,0⟩])))))
def ShI (X : St) (F0 : Fr) (xb : Nat) (v : AV) (cells : List AV) (l : List Int) (f : Int) (k : Nat) (A : bT) (Z : St) : Prop := A.inr = false ∧ X.nx ≤ Z.nx ∧ (∀ c, c < X.nx → aP v ≠ some c → Z.h.get c = X.h.get c) ∧ Z.h.get xb = some (.cells cells false 0) ∧ ∃ (i : Nat) (l' : List Int), i + k = l.length ∧ l'.length = l.length ∧ (∀ j, j < l.length → l'.getD j 0 = if j < i then l.getD j 0 + f else l.getD j 0) ∧ bS .i64 Z v l' ∧ (∀ c, aP v = some c → Wr Z c) ∧ (∀ j, j < 21 → aC j A.F = aC j F0) ∧ aC 21 A.F = .int .i64 (i : Int)
set_option maxHeartbeats 4000000 in
theorem aLY {X : St} {F : Fr} {xb : Nat} {v k0 k1 k2 xw xp : AV} {l : List Int} {f : Int} (hv : bS .i64 X v l) (hw : ∀ c, aP v = some c → Wr X c) (hx : X.h.get xb = some (.cells [k0, k1, k2, v, xw, xp] false 0)) (hxv : aP v ≠ some xb) (hl : l.length ≤ 1000) (hb : ∀ j, j < l.length → 0 ≤ l.getD j 0 ∧ l.getD j 0 ≤ 100000) (hf : 0 ≤ f ∧ f ≤ 100000) (p18 : aC 18 F = .int .i64 f) (p20 : aC 20 F = .ptr xb 0) (p21 : aC 21 F = .int .i64 0) :
  lZ fns aLV ⟨F, false⟩ X fun o A Z => o = .normal ∧ ShI X F xb v [k0, k1, k2, v, xw, xp] l f 0 A Z := by
 unfold aLV
 refine bE (cS (ShI X F xb v [k0, k1, k2, v, xw, xp] l f) ?_ l.length _ _ ⟨rfl, Nat.le_refl _, fun _ _ _ => rfl, hx, 0, l, by omega, rfl, fun j hj => by rw [if_neg (by omega)], hv, hw, fun _ _ => rfl, p21⟩)
 clear hv hw hx p21
 rintro k ⟨F', inr⟩ Z ⟨q0, nZ, kZ, hx, i, l', hik, hl', hg, hv, hw, hk, p21⟩
 simp only at q0 hk p21
 subst q0
 have q18 := (hk 18 (by omega)).trans p18
 have q20 := (hk 20 (by omega)).trans p20
 refine kK ?_
 simp only [↓sU,sD,rE,↓reduceIte,rA, q20, p21, aB, aA, fI hx, hv.len, Int.ofNat_eq_natCast]
 by_cases hlt : i < l.length
 rotate_left
 ·refine aX (by simp only [↓sU,sD,rE,↓reduceIte,rA, decide_eq_false (show ¬ (i : Int) < ((l'.length : Nat) : Int) by omega)]) (cL ?_)
  simp only [↓sU,sD,rE,↓reduceIte,rA]
  obtain rfl : k = 0 := by omega
  refine ⟨rfl, nZ, kZ, hx, i, l', hik, hl', hg, hv, hw, fun j hj => ?_, by simp only [↓sU,sD,rE,↓reduceIte,rA, p21]⟩
  repeat rw [bJ, if_neg (by omega)]
  exact hk j hj
 refine bB (by simp only [↓sU,sD,rE,↓reduceIte,rA, decide_eq_true (show (i : Int) < ((l'.length : Nat) : Int) by omega)]) (aO ?_)
 try simp only [↓sU,sD,rE,↓reduceIte,rA]
 have w1 : IntKind.i64.wrap ((i : Int) + 1) = ((i + 1 : Nat) : Int) := by rw [wrap_i64 (by omega) (by omega)]; omega
 have hgi := hg i hlt
 rw [if_neg (by omega)] at hgi
 have hbi := hb i hlt
 have w2 : IntKind.i64.wrap (l'.getD i 0 + f) = l.getD i 0 + f := by rw [hgi]; exact wrap_i64 (by omega) (by omega)
 obtain ⟨b, off, e1, e2, e3, e4, e5⟩ := aLo hv (k := i) (by omega) hw
 obtain ⟨Xh, x1, x2, x3, x4⟩ := e5 (l.getD i 0 + f) (Z.nx + 12) (by omega)
 have svv := bS.self hv
 have hbx : b ≠ xb := fun e => hxv (by rw [e1, e])
 refine aE (bE (qN (pre := aME) (K := 11) (m := 2047) (n := 1) (x := .t 112) (v := .t 111) rfl rfl rfl rfl ?_))
 unfold aME
 simp only [↓sU,sD,rE,↓reduceIte,rA, q18, q20, p21, aB, aN, aA, fI hx, svv, aL, e3, e4, w2]
 simp only [cV, aF]
 refine ⟨_, x1 ⟨Z.h, Z.nx + 12⟩ rfl, ?_⟩
 try simp only [↓sU,sD,rE,↓reduceIte,rA]
 refine aR ?_
 simp only [↓sU,sD,rE,↓reduceIte,rA, p21, w1]
 refine ⟨k - 1, by omega, rfl, by show X.nx ≤ Z.nx + 12; omega, fun c hc hne => (x2 c (fun e => hne (by rw [e1, e]))).trans (kZ c hc hne), (x2 xb hbx.symm).trans hx, i + 1, l'.set i (l.getD i 0 + f), by omega, by rw [List.length_set]; exact hl', fun j hj => ?_, x3, x4, fun j hj => ?_, by simp only [↓sU,sD,rE,↓reduceIte,rA]⟩
 ·rw [iD (by omega)]
  by_cases e : j = i
  ·rw [if_pos e, if_pos (by omega), e]
  ·rw [if_neg e, hg j hj]
   by_cases e2 : j < i
   ·rw [if_pos e2, if_pos (by omega)]
   ·rw [if_neg e2, if_neg (by omega)]
 ·repeat rw [bJ, if_neg (by omega)]
  exact hk j hj
theorem aL2 {l l' : List Int} {f : Int} (hl : l'.length = l.length) (h : ∀ j, j < l.length → l'.getD j 0 = if j < l.length then l.getD j 0 + f else l.getD j 0) : l' = l.map (· + f) := uI (by rw [hl, List.length_map]) fun j hj => by
 rw [h j (by omega), if_pos (by omega), xR (by omega)]
end Go.Ev.Gl
namespace Go.Ev.Gl
variable {fns : T cA}
structure TwT (F : Fr) (rb B gb n m cp : Nat) (seen : Bool) (c : Nat) : Prop where
 t3 : aC 3 F = .int .i64 (cp : Int)
 t4 : aC 4 F = .bool seen
 t12 : aC 12 F = .ptr rb 0
 t13 : aC 13 F = .ptr B 0
 t14 : aC 14 F = .int .i64 (n : Int)
 t15 : aC 15 F = .int .i64 (m : Int)
 t16 : aC 16 F = .ptr gb 0
 t17 : aC 17 F = .int .i64 (c : Int)
theorem TwT.of {F F' : Fr} {rb B gb n m cp c : Nat} {seen : Bool} (h : TwT F rb B gb n m cp seen c) (hk : ∀ j, j < 18 → aC j F' = aC j F) : TwT F' rb B gb n m cp seen c :=
 ⟨(hk 3 (by omega)).trans h.t3, (hk 4 (by omega)).trans h.t4, (hk 12 (by omega)).trans h.t12, (hk 13 (by omega)).trans h.t13, (hk 14 (by omega)).trans h.t14, (hk 15 (by omega)).trans h.t15, (hk 16 (by omega)).trans h.t16, (hk 17 (by omega)).trans h.t17⟩
noncomputable def aLu : AC := (.block 2 (.loop (.seq (.seq (.reg [⟨(some 84),(.q (.mv (.t 19))),none,0⟩,
⟨(some 85),(.q (.mv (.t 14))),none,0⟩,
⟨(some 86),(.q (.bin .lss (.p .int) (.t 84) (.t 85))),none,0⟩])
(.cond (.t 86) .skip (.exit 2)))
(.seq (.block 3 (.seq (.reg [⟨(some 89),(.q (.ld true 3 (.t 13))),none,0⟩,
⟨(some 90),(.x (.call (.c (.fn 41 [] [])) [(.t 89)])),none,0⟩,
⟨(some 91),(.q (.fld false 1 1 (.t 90))),none,0⟩,
⟨(some 92),(.q (.mv (.t 19))),none,0⟩,
⟨(some 93),(.q (.iaddr (.slice 6) (.t 91) (.t 92))),none,0⟩,
⟨(some 94),(.q (.ld true 6 (.t 93))),none,0⟩,
⟨(some 20),(.a (.alloc 64 [(.int .i64 (.ofNat 0)),(.int .i64 (.ofNat 0)),(.int .i64 (.ofNat 0)),.nilsl,.nilsl,.nilsl])),none,0⟩,
⟨none,(.x (.st 6 (.t 20) (.t 94))),none,0⟩])
(.seq (.seq (.reg [⟨(some 21),(.q (.mv (.c (.int .i64 (.ofNat 0))))),none,0⟩])
aLV)
(.seq (.seq (.reg [⟨(some 113),(.q (.faddr 0 (.t 20))),none,0⟩,
⟨(some 114),(.q (.ld false 1 (.t 113))),none,0⟩,
⟨(some 115),(.q (.bin .eql (.p .int) (.t 114) (.c (.int .i64 (.ofNat 2))))),none,0⟩,
⟨(some 116),(.q (.mv (.t 115))),none,0⟩,
⟨(some 117),(.q (.mv (.t 4))),(some (116,true)),0⟩,
⟨(some 118),(.q (.pick (.t 116) (.t 117) (.c (.bool false)))),none,0⟩])
(.cond (.t 118) (.reg [⟨(some 119),(.q (.faddr 2 (.t 20))),none,0⟩,
⟨(some 120),(.q (.ld false 1 (.t 119))),none,0⟩,
⟨(some 121),(.q (.mv (.t 17))),none,0⟩,
⟨(some 122),(.q (.mv (.t 15))),none,0⟩,
⟨(some 123),(.q (.bin .mul (.p .int) (.t 121) (.t 122))),none,0⟩,
⟨(some 124),(.q (.bin .add (.p .int) (.t 120) (.t 123))),none,0⟩,
⟨(some 125),(.q (.faddr 2 (.t 20))),none,0⟩,
⟨none,(.x (.st 1 (.t 125) (.t 124))),none,0⟩]) .skip))
(.reg [⟨(some 126),(.q (.faddr 1 (.t 16))),none,0⟩,
⟨(some 127),(.q (.ld false 1 (.t 126))),none,0⟩,
⟨(some 128),(.q (.ld true 6 (.t 20))),none,0⟩,
⟨(some 129),(.a (.bslice 64 6 1 [(.int .i64 (.ofNat 0)),(.int .i64 (.ofNat 0)),(.int .i64 (.ofNat 0)),.nilsl,.nilsl,.nilsl] [(0,(.t 128))])),none,0⟩,
⟨(some 130),(.x (.app 64 6 96 (.t 127) (.t 129))),none,0⟩,
⟨(some 131),(.q (.faddr 1 (.t 16))),none,0⟩,
⟨none,(.x (.st 1 (.t 131) (.t 130))),none,0⟩])))))
(.reg [⟨(some 87),(.q (.mv (.t 19))),none,0⟩,
⟨(some 88),(.q (.bin .add (.p .int) (.t 87) (.c (.int .i64 (.ofNat 1))))),none,0⟩,
⟨(some 19),(.q (.mv (.t 88))),none,0⟩])))))
def LmI (S5 : St) (rb B gb cp : Nat) (one : bG) (seen : Bool) (c : Nat) (k : Nat) (A : bT) (X : St) : Prop := A.inr = false ∧ ∃ (i nb nn sz : Nat) (o : Bool) (xa xw iv : AV) (cs ics : List AV), i + k = one.nodes.length ∧ TwB S5 X gb nb nn o sz one.players xa xw iv cs ics (kC one.nodes.length (c + 1)) (List.replicate (c + 1) 1) (iT one seen c ++ (mY one seen c).take i) (iI one seen (c + 1)) ∧ TwT A.F rb B gb one.nodes.length one.infos.length cp seen c ∧ aC 18 A.F = .int .i64 ((1 + c * one.nodes.length : Nat) : Int) ∧ aC 19 A.F = .int .i64 (i : Int)
theorem aKz {g : bG} (h : dF g = 0) : aMo g := by
 have G := jX h
 refine ⟨by have := G.ni; omega, fun x hx => ?_⟩
 obtain ⟨j, hj, rfl⟩ := List.mem_iff_getElem.1 hx
 have e : nodeAt g j = g.nodes[j] := vS (List.getElem?_eq_getElem hj)
 have a := G.nxt j hj
 have b := aFr (aBP h hj)
 have c := G.pay j hj
 rw [e] at a b c
 omega
theorem aIg {one : bG} {seen : Bool} {c i : Nat} (hi : i < one.nodes.length) : (mY one seen c).take (i + 1) = (mY one seen c).take i ++ [shN ((1 + c * one.nodes.length : Nat) : Int) ((iO one seen c : Nat) : Int) (nodeAt one i)] := by
 have : (mY one seen c)[i]? = some (shN ((1 + c * one.nodes.length : Nat) : Int) ((iO one seen c : Nat) : Int) (nodeAt one i)) := by
  unfold mY
  rw [List.getElem?_map, dU hi]
  rfl
 rw [List.take_add_one, this]
 rfl
set_option maxHeartbeats 16000000 in
theorem aLD {S5 X : St} {F : Fr} {rb B gb cp c : Nat} {one : bG} {seen : Bool} {nv0 iv0 : AV} (H : Has fns) (hone : sH one) (hc : c < 3) (hn : aQ 6 cO S5 nv0 one.nodes) (hi : aQ 2 dB S5 iv0 one.infos) (gB : S5.h.get B = some (.cells [.int .i64 one.players, nv0, iv0] false 0)) (lB : B < S5.nx) (h0 : LmI S5 rb B gb cp one seen c one.nodes.length ⟨F, false⟩ X) :
  lZ fns aLu ⟨F, false⟩ X fun o A Z => o = .normal ∧ LmI S5 rb B gb cp one seen c 0 A Z := by
 have hform := hone.form
 have G := jX hform
 have hn60 := hone.n2
 have hm60 : one.infos.length ≤ 60 := by have := hone.ord.le; rw [List.length_map] at this; omega
 have hcn : c * one.nodes.length ≤ 2 * 60 := Nat.mul_le_mul (by omega) hn60
 have hcm : c * one.infos.length ≤ 2 * 60 := Nat.mul_le_mul (by omega) hm60
 have hcL : (iT one seen c).length = c * one.nodes.length := jN
 unfold aLu
 refine bE (cS (LmI S5 rb B gb cp one seen c) ?_ one.nodes.length _ _ h0)
 clear h0
 rintro k ⟨F, inr⟩ X ⟨q0, i, nb, nn, sz, o, xa, xw, iv, cs, ics, hik, hB, hT, p18, p19⟩
 simp only at q0 hT p18 p19
 subst q0
 refine kK ?_
 simp only [↓sU,sD,rE,↓reduceIte,rA, hT.t14, p19]
 by_cases hlt : i < one.nodes.length
 rotate_left
 ·refine aX (by simp only [↓sU,sD,rE,↓reduceIte,rA, decide_eq_false (show ¬ (i : Int) < ((one.nodes.length : Nat) : Int) by omega)]) (cL ?_)
  simp only [↓sU,sD,rE,↓reduceIte,rA]
  obtain rfl : k = 0 := by omega
  refine ⟨rfl, i, nb, nn, sz, o, xa, xw, iv, cs, ics, hik, hB, hT.of fun j hj => ?_, by simp only [↓sU,sD,rE,↓reduceIte,rA, p18], by simp only [↓sU,sD,rE,↓reduceIte,rA, p19]⟩
  repeat rw [bJ, if_neg (by omega)]
 refine bB (by simp only [↓sU,sD,rE,↓reduceIte,rA, decide_eq_true (show (i : Int) < ((one.nodes.length : Nat) : Int) by omega)]) (aO ?_)
 try simp only [↓sU,sD,rE,↓reduceIte,rA]
 have w1 : IntKind.i64.wrap ((i : Int) + 1) = ((i + 1 : Nat) : Int) := by rw [wrap_i64 (by omega) (by omega)]; omega
 have nX := hB.same.1
 have gBX := (hB.same.2 B lB).trans gB
 have hLlen : (iT one seen c ++ (mY one seen c).take i).length ≤ 1000 := by
  rw [List.length_append, hcL, List.length_take, uE]
  omega
 refine aE (bE (aE (aR ?_)))
 simp only [↓aJ,aH,rE,↓reduceIte, rA, hT.t13, iY gBX]
 refine bL ?_
 simp only [↓aJ,aH,rE,↓reduceIte, rA]
 refine aW (aHR H (aQ.same (E := cO) cB hn hB.same) (aQ.same (E := dB) cU hi hB.same) (aKz hform) (by omega)) ?_
 rintro _ Y ⟨hY, mv, jv, nz, ds, rfl, hnz, gM, bM, dM, _⟩
 have hF := bM.isF dM gM
 obtain ⟨e, be, pe, hia, hbe, _, ⟨xa2, xw2, xp2, rfl, ia2, iw2, ip2, hP, hdj⟩, hld, _⟩ := aQ.at hF (by decide) (dU hlt)
 have hfv : aGi (.agg [.int .i64 one.players, mv, jv]) false 1 1 = some mv := rfl
 simp only [↓aJ,aH,rE,↓reduceIte, rA, hfv, p19, aL, hia, hld]
 refine dD ?_
 intro W1 v1 k1 h1
 try simp only [↓aJ,aH,rE,↓reduceIte, rA]
 refine eH (b := Y.nx) (by simp only [↓aJ,aH,rE,↓reduceIte, rA]) (by simp only [↓aJ,aH,rE,↓reduceIte, rA]; exact bK _) h1 rfl rfl ?_
 intro Y2 v2 k2 h2
 simp only [↓aJ,aH,rE,↓reduceIte, rA]
 have sY : Same Y Y2 := v2.same v1 (Nat.le_refl _)
 have sXY := hY.trans sY
 have nY := hY.1
 have nY2 := sY.1
 have lxb : Y.nx < Y2.nx := by omega
 clear v1 v2 h1 k1
 have la2 : ∀ {c}, aP xa2 = some c → c < Y.nx := fun hc => eM ia2 hc
 have lw2 : ∀ {c}, aP xw2 = some c → c < Y.nx := fun hc => eM iw2 hc
 have lp2 : ∀ {c}, aP xp2 = some c → c < Y.nx := fun hc => eM ip2 hc
 have gnx := G.nxt i hlt
 refine kK ?_
 simp only [↓sU,sD,rE,↓reduceIte,rA]
 refine bP (aLY (X := Y2) (xb := Y.nx) (v := xa2) (xw := xw2) (xp := xp2) (l := (nodeAt one i).next) (f := ((1 + c * one.nodes.length : Nat) : Int)) (ia2.same sY) (fun b hb => (hP b (.inl hb)).2.2.eq (sY.2 b (la2 hb))) h2 (fun e => by have := la2 e; omega) gnx (fun j hj => by have := G.kids i hlt j hj; omega) (by omega) (by simp only [↓sU,sD,rE,↓reduceIte,rA, p18]) (by simp only [↓sU,sD,rE,↓reduceIte,rA]) (by simp only [↓sU,sD,rE,↓reduceIte,rA]; try rfl)) ?_
 rintro o' ⟨F2, inr⟩ Z ⟨rfl, q0, nZ, kZ, hx, i', l', hik', hl', hg', hv', _, hk, _⟩
 simp only at q0 hk
 subst q0
 obtain rfl : i' = (nodeAt one i).next.length := by omega
 obtain rfl := aL2 hl' hg'
 have T2 : TwT F2 rb B gb one.nodes.length one.infos.length cp seen c := hT.of fun j hj => by
  rw [hk j (by omega)]
  repeat rw [bJ, if_neg (by omega)]
 have q18 : aC 18 F2 = .int .i64 ((1 + c * one.nodes.length : Nat) : Int) := (hk 18 (by omega)).trans (by simp only [↓sU,sD,rE,↓reduceIte,rA, p18])
 have q19 : aC 19 F2 = .int .i64 (i : Int) := (hk 19 (by omega)).trans (by simp only [↓sU,sD,rE,↓reduceIte,rA, p19])
 have q20 : aC 20 F2 = .ptr Y.nx 0 := (hk 20 (by omega)).trans (by simp only [↓sU,sD,rE,↓reduceIte,rA])
 clear hk hg' hl'
 have kXZ : ∀ b, b < X.nx → Z.h.get b = X.h.get b := fun b hb => by
  rw [kZ b (by omega) (fun e => by have := (hP b (.inl e)).1; omega)]
  exact sXY.2 b hb
 have iwZ : bS .i64 Z xw2 (nodeAt one i).weights := fN (iw2.same sY) nZ fun b hb => kZ b (by have := lw2 hb; omega) fun e => (hdj b e).1 hb
 have ipZ : bS .i64 Z xp2 (nodeAt one i).pay := fN (ip2.same sY) nZ fun b hb => kZ b (by have := lp2 hb; omega) fun e => (hdj b e).2 hb
 have hinf : (nodeAt one i).kind = 2 → 0 ≤ (nodeAt one i).info ∧ (nodeAt one i).info < one.infos.length := fun hk => ⟨(G.inf i hlt hk).1, (G.inf i hlt hk).2.1⟩
 try simp only [↓sU,sD,rE,↓reduceIte,rA]
 refine aE (bP (Q := fun o A' Z' => o = .normal ∧ A'.inr = false ∧ Z'.nx = Z.nx ∧ (∀ b, b ≠ Y.nx → Z'.h.get b = Z.h.get b) ∧ Z'.h.get Y.nx = some (.cells [.int .i64 (nodeAt one i).kind, .int .i64 (nodeAt one i).player, .int .i64 (shN ((1 + c * one.nodes.length : Nat) : Int) ((iO one seen c : Nat) : Int) (nodeAt one i)).info, xa2, xw2, xp2] false 0) ∧ TwT A'.F rb B gb one.nodes.length one.infos.length cp seen c ∧ aC 18 A'.F = .int .i64 ((1 + c * one.nodes.length : Nat) : Int) ∧ aC 19 A'.F = .int .i64 (i : Int) ∧ aC 20 A'.F = .ptr Y.nx 0) (aE (aR ?_)) ?_)
 ·have t4 := T2.t4
  by_cases hk2 : (nodeAt one i).kind = 2
  ·simp only [↓sU,sD,rE,↓reduceIte,rA, q20, t4, aB, aA, fG hx, decide_eq_true hk2]
   have einf : (shN ((1 + c * one.nodes.length : Nat) : Int) ((iO one seen c : Nat) : Int) (nodeAt one i)).info = (nodeAt one i).info + ((iO one seen c : Nat) : Int) := by
    show (if (nodeAt one i).kind = 2 then _ else _) = _
    rw [if_pos hk2]
   obtain ⟨i1, i2⟩ := hinf hk2
   cases hs : seen with
   | true =>
    refine bB (by simp only [↓sU,sD,rE,↓reduceIte,rA]; try rfl) ?_
    have eo : iO one true c = c * one.infos.length := by unfold iO; rw [if_pos rfl]
    have w2 : IntKind.i64.wrap ((c : Int) * (one.infos.length : Int)) = ((c * one.infos.length : Nat) : Int) := by rw [← Int.natCast_mul]; exact wrap_i64 (by omega) (by omega)
    have w3 : IntKind.i64.wrap ((nodeAt one i).info + ((c * one.infos.length : Nat) : Int)) = (nodeAt one i).info + ((c * one.infos.length : Nat) : Int) := wrap_i64 (by omega) (by omega)
    rw [hs, eo] at einf
    refine aR ?_
    simp only [↓sU,sD,rE,↓reduceIte,rA, q20, T2.t15, T2.t17, aB, aA, fO hx, w2, w3]
    refine fZ (v := .undef) (S1 := ⟨Z.h.set Y.nx (some (.cells [.int .i64 (nodeAt one i).kind, .int .i64 (nodeAt one i).player, .int .i64 ((nodeAt one i).info + ((c * one.infos.length : Nat) : Int)), xa2, xw2, xp2] false 0)), Z.nx⟩) (fun call => by simp only [↓sU,sD,rE,↓reduceIte,rA, dT, cV]; exact stc (cs := [.int .i64 (nodeAt one i).kind, .int .i64 (nodeAt one i).player, .int .i64 (nodeAt one i).info, xa2, xw2, xp2]) (p := 2) hx (by simp)) ?_
    simp only [↓sU,sD,rE,↓reduceIte,rA]
    refine ⟨fun b hb => by rw [T.get_set, if_neg hb], by rw [T.get_set, if_pos rfl, eo, einf], ?_, q18, q19, q20⟩
    rw [← hs]
    exact T2.of fun j hj => by repeat rw [bJ, if_neg (by omega)]
   | false =>
    refine aX (by simp only [↓sU,sD,rE,↓reduceIte,rA]; try rfl) (aO ?_)
    have eo : iO one false c = 0 := by unfold iO; rw [if_neg (by decide)]
    rw [hs, eo] at einf
    simp only [↓sU,sD,rE,↓reduceIte,rA]
    refine ⟨fun _ _ => by trivial, ?_, ?_, q18, q19, q20⟩
    ·rw [eo, einf, hx]
     show some (AB.cells [_, _, AV.int .i64 (nodeAt one i).info, _, _, _] _ _) = some (AB.cells [_, _, AV.int .i64 ((nodeAt one i).info + ((0 : Nat) : Int)), _, _, _] _ _)
     rw [show (nodeAt one i).info + ((0 : Nat) : Int) = (nodeAt one i).info by omega]
    ·rw [← hs]
     exact T2.of fun j hj => by repeat rw [bJ, if_neg (by omega)]
  ·simp only [↓sU,sD,rE,↓reduceIte,rA, q20, t4, aB, aA, fG hx, decide_eq_false hk2]
   refine aX (by simp only [↓sU,sD,rE,↓reduceIte,rA]; try rfl) (aO ?_)
   have einf : (shN ((1 + c * one.nodes.length : Nat) : Int) ((iO one seen c : Nat) : Int) (nodeAt one i)).info = (nodeAt one i).info := by
    show (if (nodeAt one i).kind = 2 then _ else _) = _
    rw [if_neg hk2]
   simp only [↓sU,sD,rE,↓reduceIte,rA]
   refine ⟨fun _ _ => by trivial, by rw [einf]; exact hx, T2.of fun j hj => by repeat rw [bJ, if_neg (by omega)], q18, q19, q20⟩
 rintro o' ⟨F3, inr⟩ Z' ⟨rfl, q0, nZ', kZ', hx', T3, r18, r19, r20⟩
 simp only at q0 T3 r18 r19 r20
 subst q0
 have sXZ : Same X Z' := ⟨by omega, fun c hc => (kZ' c (by omega)).trans (kXZ c hc)⟩
 have hB0 := hB
 have hB := hB.sm sXZ
 have hlen := hB.hn
 rw [List.length_append, hcL, List.length_take, uE, Nat.min_eq_left (by omega)] at hlen
 have hnb : yK Z' (fun c => X.nx ≤ c ∧ c < Z'.nx) [.int .i64 (nodeAt one i).kind, .int .i64 (nodeAt one i).player, .int .i64 (shN ((1 + c * one.nodes.length : Nat) : Int) ((iO one seen c : Nat) : Int) (nodeAt one i)).info, xa2, xw2, xp2] (shN ((1 + c * one.nodes.length : Nat) : Int) ((iO one seen c : Nat) : Int) (nodeAt one i)) :=
  ⟨xa2, xw2, xp2, rfl, fN hv' (by omega) fun b hb => kZ' b (by have := la2 hb; omega), fN iwZ (by omega) fun b hb => kZ' b (by have := lw2 hb; omega), fN ipZ (by omega) fun b hb => kZ' b (by have := lp2 hb; omega), fun b hb => by
   have h1 := (hP b hb).1
   rcases hb with hb | hb | hb
   ·have := la2 hb; omega
   ·have := lw2 hb; omega
   ·have := lp2 hb; omega⟩
 refine aR ?_
 simp only [↓aJ,aH,rE,↓reduceIte, rA, r20, T3.t16, aB, aA, lI hB.g, qJ (n := 6) hx' rfl]
 refine kH (aDF (by simp only [↓sU,sD,rE,↓reduceIte,rA]; try rfl)) ?_
 intro W wS wn wb
 try simp only [↓aJ,aH,rE,↓reduceIte, rA]
 have hW := hB.sm wS
 have hnW := hnb.move (P' := fun c => X.nx ≤ c ∧ c < Z'.nx) wS.1 fun c hc hp => ⟨wS.2 c hc, hp⟩
 obtain ⟨V, eA, nV, bV, kV⟩ := aHx (n := nn) (bytes := 96) hW.b (by rw [List.length_append, hW.nod.1, hW.hn]; show 6 + _ = _; omega) hW.osz wb rfl (by unfold room; omega) (by unfold room; omega)
 refine fZ (fun call => by simp only [↓sU,sD,rE,↓reduceIte,rA, gH]; exact eA) ?_
 simp only [↓sU,sD,rE,↓reduceIte,rA, T3.t16, aB, aA]
 have gV : V.h.get gb = some (.cells [.int .i64 one.players, .sl nb 0 nn nn o, iv] false 0) := (kV gb hW.lg.2 hW.dgb).trans hW.g
 refine fZ (v := .undef) (S1 := ⟨V.h.set gb (some (.cells [.int .i64 one.players, .sl W.nx 0 (nn + 1) (nn + 1) true, iv] false 0)), V.nx⟩) (fun call => by simp only [↓sU,sD,rE,↓reduceIte,rA, dT, aFu]; exact stc (cs := [.int .i64 one.players, .sl nb 0 nn nn o, iv]) (p := 1) gV (by simp)) ?_
 simp only [↓sU,sD,rE,↓reduceIte,rA]
 have hV := hW.push (Nat.le_refl _) (by omega) (hnW.move (P' := fun c => S5.nx ≤ c ∧ c ≠ gb ∧ c < W.nx ∧ aP xa ≠ some c ∧ aP xw ≠ some c ∧ aP iv ≠ some c) (by omega) fun b hb hp => ⟨kV b hb (by have := hB0.lb.2; omega), by have := hB0.same.1; omega, by have := hB0.lg.2; omega, hb, fun e => by have := (hB0.gxa.blk e).2.1; omega, fun e => by have := (hB0.gxw.blk e).2.1; omega, fun e => by have := (hB0.giv.blk e).2.1; omega⟩) bV kV
 rw [List.append_assoc, ← aIg hlt] at hV
 refine aR ?_
 simp only [↓sU,sD,rE,↓reduceIte,rA, r19, w1]
 refine ⟨k - 1, by omega, rfl, i + 1, W.nx, nn + 1, 6, true, xa, xw, iv, _, ics, by omega, hV, T3.of fun j hj => ?_, by simp only [↓sU,sD,rE,↓reduceIte,rA, r18], by simp only [↓sU,sD,rE,↓reduceIte,rA]⟩
 repeat rw [bJ, if_neg (by omega)]
end Go.Ev.Gl
namespace Go.Ev.Gl
variable {fns : T cA}
section
variable {S5 X Z : St} {gb nb n sz : Nat} {o : Bool} {ps : Int} {xa xw iv : AV} {cs ics : List AV} {A W : List Int} {L : List cM} {I : List gR}
theorem TwB.re (h : TwB S5 X gb nb n o sz ps xa xw iv cs ics A W L I) (hn : X.nx ≤ Z.nx) (hk : ∀ c, c < X.nx → S5.nx ≤ c → Z.h.get c = X.h.get c) : TwB ⟨Z.h, S5.nx⟩ Z gb nb n o sz ps xa xw iv cs ics A W L I where
 same := ⟨Nat.le_trans h.same.1 hn, fun _ _ => rfl⟩
 lg := ⟨h.lg.1, Nat.lt_of_lt_of_le h.lg.2 hn⟩
 lb := ⟨h.lb.1, Nat.lt_of_lt_of_le h.lb.2 hn⟩
 g := (hk _ h.lg.2 h.lg.1).trans h.g
 b := (hk _ h.lb.2 h.lb.1).trans h.b
 hn := h.hn
 osz := h.osz
 nod := h.nod.move hn fun c hc hP => ⟨hk c hc hP.1, hP⟩
 gxa := h.gxa.move hn fun c hc => hk c (h.gxa.blk hc).2.1 (h.gxa.blk hc).1
 gxw := h.gxw.move hn fun c hc => hk c (h.gxw.blk hc).2.1 (h.gxw.blk hc).1
 giv := h.giv.move hn fun c hc => hk c (h.giv.blk hc).2.1 (h.giv.blk hc).1
 inf := h.inf
 dgb := h.dgb
 da := h.da
 dw := h.dw
 di := h.di
 daw := h.daw
 dwi := h.dwi
end
theorem aGt {n c : Nat} : kC n (c + 1) = kC n c ++ [((1 + c * n : Nat) : Int)] := by
 unfold kC
 rw [List.range_succ, List.map_append]
 rfl
noncomputable def aLM : AC := (.seq (.reg [⟨(some 73),(.q (.mv (.t 17))),none,0⟩,
⟨(some 74),(.q (.bin .eql (.p .int) (.t 73) (.c (.int .i64 (.ofNat 0))))),none,0⟩,
⟨(some 75),(.q (.mv (.t 74))),none,0⟩,
⟨(some 76),(.q (.mv (.t 4))),(some (75,false)),0⟩,
⟨(some 77),(.q (.pick (.t 75) (.c (.bool true)) (.t 76))),none,0⟩])
(.cond (.t 77) (.reg [⟨(some 78),(.q (.faddr 2 (.t 16))),none,0⟩,
⟨(some 79),(.q (.ld false 1 (.t 78))),none,0⟩,
⟨(some 80),(.q (.faddr 2 (.t 13))),none,0⟩,
⟨(some 81),(.q (.ld false 1 (.t 80))),none,0⟩,
⟨(some 82),(.x (.app 48 2 16 (.t 79) (.t 81))),none,0⟩,
⟨(some 83),(.q (.faddr 2 (.t 16))),none,0⟩,
⟨none,(.x (.st 1 (.t 83) (.t 82))),none,0⟩]) .skip))
noncomputable def aM4 : AC := (.block 0 (.loop (.seq (.seq (.reg [⟨(some 41),(.q (.mv (.t 17))),none,0⟩,
⟨(some 42),(.q (.mv (.t 3))),none,0⟩,
⟨(some 43),(.q (.bin .lss (.p .int) (.t 41) (.t 42))),none,0⟩])
(.cond (.t 43) .skip (.exit 0)))
(.seq (.block 1 (.seq (.reg [⟨(some 46),(.q (.mv (.t 17))),none,0⟩,
⟨(some 47),(.q (.mv (.t 14))),none,0⟩,
⟨(some 48),(.q (.bin .mul (.p .int) (.t 46) (.t 47))),none,0⟩,
⟨(some 49),(.q (.bin .add (.p .int) (.c (.int .i64 (.ofNat 1))) (.t 48))),none,0⟩,
⟨(some 18),(.q (.mv (.t 49))),none,0⟩])
(.seq aIE
(.seq aLM
(.seq (.reg [⟨(some 19),(.q (.mv (.c (.int .i64 (.ofNat 0))))),none,0⟩])
aLu)))))
(.reg [⟨(some 44),(.q (.mv (.t 17))),none,0⟩,
⟨(some 45),(.q (.bin .add (.p .int) (.t 44) (.c (.int .i64 (.ofNat 1))))),none,0⟩,
⟨(some 17),(.q (.mv (.t 45))),none,0⟩])))))
def TwI (S5 : St) (rb B gb cp : Nat) (one : bG) (seen : Bool) (k : Nat) (A : bT) (X : St) : Prop := A.inr = false ∧ ∃ (c nb nn sz : Nat) (o : Bool) (xa xw iv : AV) (cs ics : List AV), c + k = cp ∧ TwB S5 X gb nb nn o sz one.players xa xw iv cs ics (kC one.nodes.length c) (List.replicate c 1) (iT one seen c) (iI one seen c) ∧ TwT A.F rb B gb one.nodes.length one.infos.length cp seen c
set_option maxHeartbeats 16000000 in
theorem aLR {S5 X : St} {F : Fr} {rb B gb nb nn sz cp c : Nat} {o : Bool} {one : bG} {seen : Bool} {xa xw iv nv0 iv0 : AV} {cs ics : List AV} {A W : List Int} {L : List cM} (hone : sH one) (hc : c < 3) (hi : aQ 2 dB S5 iv0 one.infos) (gB : S5.h.get B = some (.cells [.int .i64 one.players, nv0, iv0] false 0)) (lB : B < S5.nx) (hB : TwB S5 X gb nb nn o sz one.players xa xw iv cs ics A W L (iI one seen c)) (hT : TwT F rb B gb one.nodes.length one.infos.length cp seen c) (p18 : aC 18 F = .int .i64 ((1 + c * one.nodes.length : Nat) : Int)) :
  lZ fns aLM ⟨F, false⟩ X fun o' A' Z => o' = .normal ∧ A'.inr = false ∧ (∃ (iv' : AV) (ics' : List AV), TwB S5 Z gb nb nn o sz one.players xa xw iv' cs ics' A W L (iI one seen (c + 1))) ∧ TwT A'.F rb B gb one.nodes.length one.infos.length cp seen c ∧ aC 18 A'.F = .int .i64 ((1 + c * one.nodes.length : Nat) : Int) := by
 have hm60 : one.infos.length ≤ 60 := by have := hone.ord.le; rw [List.length_map] at this; have := hone.n2; omega
 have hcm : c * one.infos.length ≤ 2 * 60 := Nat.mul_le_mul (by omega) hm60
 have t4 := hT.t4
 unfold aLM
 have nX := hB.same.1
 have gBX := (hB.same.2 B lB).trans gB
 have hlen : (iI one seen c).length ≤ 300 := by
  cases hs : seen with
  | true => rw [jI rfl]; omega
  | false =>
   cases c with
   | zero => show 0 ≤ 300; omega
   | succ c => rw [qP rfl (by omega)]; omega
 by_cases hcond : c = 0 ∨ seen = true
 rotate_left
 ·have hc0 : c ≠ 0 := fun e => hcond (.inl e)
  have hs : seen = false := by cases seen with | true => exact absurd (.inr rfl) hcond | false => rfl
  have e1 : iI one seen (c + 1) = iI one seen c := by
   show (if _ then _ else _) = _
   rw [if_neg hcond]
  rw [e1]
  rw [hs] at t4
  refine cI ?_
  simp only [↓sU,sD,rE,↓reduceIte,rA, hT.t17, t4, decide_eq_false (show ¬ (c : Int) = 0 by omega)]
  refine aX (by simp only [↓sU,sD,rE,↓reduceIte,rA]; try rfl) (aO ?_)
  try simp only [↓sU,sD,rE,↓reduceIte,rA]
  refine ⟨⟨iv, ics, hB⟩, hT.of fun j hj => ?_, by simp only [↓sU,sD,rE,↓reduceIte,rA, p18]⟩
  repeat rw [bJ, if_neg (by omega)]
 have e1 : iI one seen (c + 1) = iI one seen c ++ one.infos := by
  show (if _ then _ else _) = _
  rw [if_pos hcond]
 rw [e1]
 refine aE (bP (Q := fun o' A' Z => o' = .normal ∧ A'.inr = false ∧ Z = X ∧ aC 77 A'.F = .bool true ∧ TwT A'.F rb B gb one.nodes.length one.infos.length cp seen c ∧ aC 18 A'.F = .int .i64 ((1 + c * one.nodes.length : Nat) : Int)) (aR ?_) ?_)
 ·by_cases hc0 : c = 0
  ·simp only [↓sU,sD,rE,↓reduceIte,rA, hT.t17, decide_eq_true (show (c : Int) = 0 by omega)]
   refine ⟨hT.of fun j hj => ?_, p18⟩
   repeat rw [bJ, if_neg (by omega)]
  ·have hs : seen = true := hcond.resolve_left hc0
   rw [hs] at t4
   simp only [↓sU,sD,rE,↓reduceIte,rA, hT.t17, t4, decide_eq_false (show ¬ (c : Int) = 0 by omega)]
   refine ⟨hT.of fun j hj => ?_, p18⟩
   repeat rw [bJ, if_neg (by omega)]
 clear p18 hT t4
 rintro o' ⟨F, inr⟩ _ ⟨rfl, q0, rfl, p77, hT, p18⟩
 simp only at q0 p77 hT p18
 subst q0
 refine bB (by simp only [↓sU,sD,rE,↓reduceIte,rA, p77]) ?_
 obtain ⟨iv', V, ics', eA, gV, iV, nV, kV, bV⟩ := aH2 hB.giv hB.inf hB.same (aQ.same (E := dB) cU hi hB.same) (by omega)
 have gg := hB.g
 have gVb : V.h.get gb = some (.cells [.int .i64 one.players, .sl nb 0 nn nn o, iv] false 0) := (kV gb hB.lg.2 hB.di.1).trans gg
 refine aR ?_
 simp only [↓sU,sD,rE,↓reduceIte,rA, hT.t13, hT.t16, aB, aA, uX gBX, uX gg]
 refine fZ (fun call => by simp only [↓sU,sD,rE,↓reduceIte,rA, gH]; exact eA) ?_
 simp only [↓sU,sD,rE,↓reduceIte,rA, hT.t16, aB, aA]
 refine fZ (v := .undef) (S1 := ⟨V.h.set gb (some (.cells [.int .i64 one.players, .sl nb 0 nn nn o, iv'] false 0)), V.nx⟩) (fun call => by simp only [↓sU,sD,rE,↓reduceIte,rA, dT, gV.cells]; exact stc (cs := [.int .i64 one.players, .sl nb 0 nn nn o, iv]) (p := 2) gVb (by simp)) ?_
 simp only [↓sU,sD,rE,↓reduceIte,rA]
 refine ⟨⟨iv', ics', hB.info nV gV iV kV bV⟩, hT.of fun j hj => ?_, by simp only [↓sU,sD,rE,↓reduceIte,rA, p18]⟩
 repeat rw [bJ, if_neg (by omega)]
set_option maxHeartbeats 16000000 in
theorem aLr {S5 X : St} {F : Fr} {rb B gb cp : Nat} {one : bG} {seen : Bool} {nv0 iv0 : AV} (H : Has fns) (hone : sH one) (hc : cp ≤ 3) (hn : aQ 6 cO S5 nv0 one.nodes) (hi : aQ 2 dB S5 iv0 one.infos) (gB : S5.h.get B = some (.cells [.int .i64 one.players, nv0, iv0] false 0)) (lB : B < S5.nx) (h0 : TwI S5 rb B gb cp one seen cp ⟨F, false⟩ X) :
  lZ fns aM4 ⟨F, false⟩ X fun o A Z => o = .normal ∧ TwI S5 rb B gb cp one seen 0 A Z := by
 unfold aM4
 have hn60 := hone.n2
 refine bE (cS (TwI S5 rb B gb cp one seen) ?_ cp _ _ h0)
 clear h0
 rintro k ⟨F, inr⟩ X ⟨q0, c, nb, nn, sz, o, xa, xw, iv, cs, ics, hck, hB, hT⟩
 simp only at q0 hT
 subst q0
 refine kK ?_
 simp only [↓sU,sD,rE,↓reduceIte,rA, hT.t17, hT.t3]
 by_cases hlt : c < cp
 rotate_left
 ·refine aX (by simp only [↓sU,sD,rE,↓reduceIte,rA, decide_eq_false (show ¬ (c : Int) < ((cp : Nat) : Int) by omega)]) (cL ?_)
  simp only [↓sU,sD,rE,↓reduceIte,rA]
  obtain rfl : k = 0 := by omega
  refine ⟨rfl, c, nb, nn, sz, o, xa, xw, iv, cs, ics, hck, hB, hT.of fun j hj => ?_⟩
  repeat rw [bJ, if_neg (by omega)]
 refine bB (by simp only [↓sU,sD,rE,↓reduceIte,rA, decide_eq_true (show (c : Int) < ((cp : Nat) : Int) by omega)]) (aO ?_)
 try simp only [↓sU,sD,rE,↓reduceIte,rA]
 have hcn : c * one.nodes.length ≤ 2 * 60 := Nat.mul_le_mul (by omega) hn60
 have w1 : IntKind.i64.wrap ((c : Int) + 1) = ((c + 1 : Nat) : Int) := by rw [wrap_i64 (by omega) (by omega)]; omega
 have w2 : IntKind.i64.wrap ((c : Int) * (one.nodes.length : Int)) = ((c * one.nodes.length : Nat) : Int) := by rw [← Int.natCast_mul]; exact wrap_i64 (by omega) (by omega)
 have w3 : IntKind.i64.wrap (1 + ((c * one.nodes.length : Nat) : Int)) = ((1 + c * one.nodes.length : Nat) : Int) := by rw [wrap_i64 (by omega) (by omega)]; omega
 have nn0 : 0 < nn := by have := hB.hn; omega
 refine aE (bE (aE (aR ?_)))
 simp only [↓sU,sD,rE,↓reduceIte,rA, hT.t17, hT.t14, w2, w3]
 refine aE (aIy (S0 := S5) (gb := gb) (nb := nb) (by simp only [↓sU,sD,rE,↓reduceIte,rA, hT.t16]) (by simp only [↓sU,sD,rE,↓reduceIte,rA]; try rfl) hB.g hB.b nn0 hB.gxa hB.gxw hB.same hB.lg.2 hB.lb.2 hB.dgb hB.da.1 hB.dw.1 hB.da.2 hB.dw.2 (fun b hb => (hB.daw b hb).1) (by rw [uR]; omega) (by rw [List.length_replicate]; omega) ?_)
 intro F1 Z xa' xw' hk nZ bZ gaZ gwZ baZ bwZ kZ
 have hB1 := hB.root nZ bZ gaZ gwZ baZ bwZ kZ
 rw [← aGt, ← List.replicate_succ'] at hB1
 have T1 : TwT F1 rb B gb one.nodes.length one.infos.length cp seen c := hT.of fun j hj => by
  rw [hk j (by omega)]
  repeat rw [bJ, if_neg (by omega)]
 have q18 : aC 18 F1 = .int .i64 ((1 + c * one.nodes.length : Nat) : Int) := (hk 18 (by omega)).trans (by simp only [↓sU,sD,rE,↓reduceIte,rA])
 clear hk hT hB bZ gaZ gwZ baZ bwZ kZ
 refine aE (bP (aLR hone (by omega) hi gB lB hB1 T1 q18) ?_)
 rintro o' ⟨F2, inr⟩ Z2 ⟨rfl, q0, ⟨iv2, ics2, hB2⟩, T2, r18⟩
 simp only at q0 T2 r18
 subst q0
 try simp only [↓sU,sD,rE,↓reduceIte,rA]
 refine cI ?_
 simp only [↓sU,sD,rE,↓reduceIte,rA]
 refine bP (aLD (cp := cp) (rb := rb) H hone (by omega) hn hi gB lB ⟨rfl, 0, nb, nn, sz, o, xa', xw', iv2, cs, ics2, by omega, by rw [List.take_zero, List.append_nil]; exact hB2, T2.of fun j hj => ?_, by simp only [↓sU,sD,rE,↓reduceIte,rA, r18], by simp only [↓sU,sD,rE,↓reduceIte,rA]; try rfl⟩) ?_
 ·repeat rw [bJ, if_neg (by omega)]
 rintro o' ⟨F3, inr⟩ Z3 ⟨rfl, q0, i, nb3, nn3, sz3, o3, xa3, xw3, iv3, cs3, ics3, hi3, hB3, T3, s18, s19⟩
 simp only at q0 T3 s18 s19
 subst q0
 obtain rfl : i = one.nodes.length := by omega
 rw [List.take_of_length_le (by rw [uE]; exact Nat.le_refl _)] at hB3
 try simp only [↓sU,sD,rE,↓reduceIte,rA]
 refine aR ?_
 simp only [↓sU,sD,rE,↓reduceIte,rA, T3.t17, w1]
 refine ⟨k - 1, by omega, rfl, c + 1, nb3, nn3, sz3, o3, xa3, xw3, iv3, cs3, ics3, by omega, hB3, ⟨?_, ?_, ?_, ?_, ?_, ?_, ?_, ?_⟩⟩
 ·simp only [↓sU,sD,rE,↓reduceIte,rA, T3.t3]
 ·simp only [↓sU,sD,rE,↓reduceIte,rA, T3.t4]
 ·simp only [↓sU,sD,rE,↓reduceIte,rA, T3.t12]
 ·simp only [↓sU,sD,rE,↓reduceIte,rA, T3.t13]
 ·simp only [↓sU,sD,rE,↓reduceIte,rA, T3.t14]
 ·simp only [↓sU,sD,rE,↓reduceIte,rA, T3.t15]
 ·simp only [↓sU,sD,rE,↓reduceIte,rA, T3.t16]
 ·simp only [↓sU,sD,rE,↓reduceIte,rA]
end Go.Ev.Gl
namespace Go.Ev.Gl
variable {fns : T cA}
theorem aN9 {F : Fr} {h : Ev.T AB} {ps : Int} {b : Nat} (h37 : aC 37 F = .int .i64 ps) (h39 : aC 39 F = .sl b 0 1 1 false) : gP (.build [.int .i64 0, .nilsl, .nilsl] [(0, 1, .t 37), (1, 1, .t 39)]) F h = some (.agg [.int .i64 ps, .sl b 0 1 1 false, .nilsl]) := by
 show (aU (dY _ (dO F [(0, 1, .t 37), (1, 1, .t 39)])) fun cs => some (AV.agg cs)) = _
 simp only [dO, show (cH.t 37).val F = .int .i64 ps from h37, show (cH.t 39).val F = .sl b 0 1 1 false from h39, dY, cV, aFu, aF]
 rfl
set_option maxHeartbeats 16000000 in
theorem aE9 {S : St} {lv : AV} {dl : List Int} {ps most : Int} {cp : Nat} {seen zero : Bool} (H : Has fns) (hl : bS .i64 S lv dl) (hbd : dl.length ≤ 140737488355328) (hps : 1 ≤ ps ∧ ps ≤ 4) (hm : 1 ≤ most ∧ most ≤ 61) (hc : 1 ≤ cp ∧ cp ≤ 3) :
  iQ fns (.fn 67 [] []) [lv, .int .i64 ps, .int .i64 most, .int .i64 (cp : Int), .bool seen, .bool zero] S fun r Z => Same S Z ∧ ∃ (one : bG) (nv iv : AV), sH one ∧ one.players = ps ∧ r = .agg [.int .i64 ps, nv, iv] ∧ aQ 6 cO Z nv (dC one cp seen).nodes ∧ aQ 2 dB Z iv (dC one cp seen).infos ∧ ∀ X' : St, Z.nx ≤ X'.nx → (∀ c, c < Z.nx → S.nx < c → X'.h.get c = Z.h.get c) → aQ 6 cO X' nv (dC one cp seen).nodes ∧ aQ 2 dB X' iv (dC one cp seen).infos := by
 refine cW H.f67 (by simp) ?_
 simp only [↓sU,sD,rE,↓reduceIte,rA]
 refine cI ?_
 refine dD ?_
 intro S1 s1 n1 g1
 simp only [↓aJ,aH,rE,↓reduceIte, rA]
 have w1 : IntKind.i64.wrap (most - 1) = most - 1 := wrap_i64 (by omega) (by omega)
 have hq : mW .quo (.p .int) (.int .i64 (most - 1)) (.int .i64 (cp : Int)) = some (.int .i64 ((most - 1) / (cp : Int))) := aH1 _ (by omega) (by omega) (by omega)
 have hq1 : (most - 1) / (cp : Int) ≤ 60 := by
  have h1 : (most - 1) / (cp : Int) ≤ most - 1 := Int.ediv_le_self _ (by omega)
  omega
 have hmx : 1 ≤ mx 1 ((most - 1) / (cp : Int)) ∧ mx 1 ((most - 1) / (cp : Int)) ≤ 60 := by unfold mx; split <;> omega
 refine cI ?_
 simp only [↓aJ,aH,rE,↓reduceIte, rA, w1, hq, aF6, lK, qW, aGH]
 refine bL ?_
 simp only [↓aJ,aH,rE,↓reduceIte, rA]
 refine aW (aDT H (hl.same s1) hbd hps ⟨hmx.1, by omega⟩) ?_
 rintro _ S2 ⟨s2, one, nv0, iv0, rfl, rfl, hform, hlen, hok, ⟨hsub, hord⟩, hn2, hi2, _⟩
 have hone : sH one := ⟨hps, by have := (jX hform).n1; omega, by omega, hform, hok, hsub, hord⟩
 try simp only [↓aJ,aH,rE,↓reduceIte, rA]
 refine dD ?_
 intro S3 s3 n3 g3
 try simp only [↓aJ,aH,rE,↓reduceIte, rA]
 refine eH (b := S2.nx) (by simp only [↓aJ,aH,rE,↓reduceIte, rA]) (by simp only [↓aJ,aH,rE,↓reduceIte, rA]; exact bK _) g3 rfl rfl ?_
 intro S4 v4 k4 g4
 try simp only [↓aJ,aH,rE,↓reduceIte, rA]
 have s4 : Same S2 S4 := v4.same s3 (Nat.le_refl _)
 have n2 := s2.1
 have m4 := s4.1
 have lB : S2.nx < S4.nx := by omega
 have gr4 : S4.h.get S.nx = some (.cells [.int .i64 0, .nilsl, .nilsl] false 0) := (s4.2 _ (by omega)).trans ((s2.2 _ (by omega)).trans g1)
 have sS4 : Same S S4 := (s1.trans s2).trans s4
 have hn4 := aQ.same (E := cO) cB hn2 s4
 have hi4 := aQ.same (E := dB) cU hi2 s4
 have lnn := aQ.len hn4
 have lni := aQ.len hi4
 clear v4 g3 s3 k4 n3
 have gB : S4.h.get S2.nx = some (.cells [.int .i64 one.players, nv0, iv0] false 0) := g4
 refine aE (mO ?_)
 simp only [↓sU,sD,rE,↓reduceIte,rA, aB, aA, lI gB, uX gB, lnn, lni]
 refine ⟨fun _ => trivial, aQ.self hn4, fun _ => trivial, aQ.self hi4, ?_⟩
 refine cI ?_
 obtain ⟨S5, hS5⟩ : ∃ Y : St, Y = ⟨S4.h, S4.nx + 8⟩ := ⟨_, rfl⟩
 have e5 : (⟨S4.h, S4.nx + 8⟩ : St) = S5 := hS5.symm
 simp only [↓aJ,aH,rE,↓reduceIte, rA, aLL]
 refine kH (aDF (by simp only [↓aJ,aH,rE,↓reduceIte, rA]; try rfl)) ?_
 simp only [e5]
 have s5 : Same S4 S5 := by rw [hS5]; exact Same.nx _ _
 have n5 : S5.nx = S4.nx + 8 := by rw [hS5]
 clear hS5 e5
 intro S6 s6 n6 g6
 simp only [← n5] at g6 n6 s6 ⊢
 try simp only [↓aJ,aH,rE,↓reduceIte, rA]
 have hbl : ∀ (F : Fr) (h : Ev.T AB), aC 37 F = .int .i64 one.players → aC 39 F = .sl S5.nx 0 1 1 false → gP (.build [.int .i64 0, .nilsl, .nilsl] [(0, 1, .t 37), (1, 1, .t 39)]) F h = some (.agg [.int .i64 one.players, .sl S5.nx 0 1 1 false, .nilsl]) := fun F h a b => aN9 a b
 try simp only [↓aJ,aH,rE,↓reduceIte, rA, hbl]
 refine dD ?_
 intro S7 s7 n7 g7
 try simp only [↓aJ,aH,rE,↓reduceIte, rA]
 refine eH (b := S6.nx) (by simp only [↓aJ,aH,rE,↓reduceIte, rA]) (by simp only [↓aJ,aH,rE,↓reduceIte, rA]; exact bK _) g7 rfl rfl ?_
 intro S8 v8 k8 g8
 try simp only [↓aJ,aH,rE,↓reduceIte, rA]
 have s8 : Same S6 S8 := v8.same s7 (Nat.le_refl _)
 have m8 := s8.1
 have s58 := s6.trans s8
 have hn5 := aQ.same (E := cO) cB hn4 s5
 have hi5 := aQ.same (E := dB) cU hi4 s5
 have gB5 := (s5.2 _ lB).trans gB
 have gr5 := (s5.2 S.nx (by have := s1.1; omega)).trans gr4
 have sS5 := sS4.trans s5
 have hB0 : TwB S5 S8 S6.nx S5.nx 1 false 0 one.players .nilsl .nilsl .nilsl [] [] (kC one.nodes.length 0) (List.replicate 0 1) (iT one seen 0) (iI one seen 0) :=
  {
   same := s58
   lg := ⟨by omega, by omega⟩
   lb := ⟨Nat.le_refl _, by omega⟩
   g := g8
   b := (s8.2 _ (by omega)).trans g6
   hn := rfl
   osz := fun h => by cases h
   nod := ⟨rfl, fun j a h => by cases h⟩
   gxa := .inl ⟨rfl, rfl, rfl⟩
   gxw := .inl ⟨rfl, rfl, rfl⟩
   giv := .inl ⟨rfl, rfl, rfl⟩
   inf := ⟨rfl, fun j a h => by cases h⟩
   dgb := by omega
   da := ⟨(fun h => by cases h), (fun h => by cases h)⟩
   dw := ⟨(fun h => by cases h), (fun h => by cases h)⟩
   di := ⟨(fun h => by cases h), (fun h => by cases h)⟩
   daw := fun c h => by cases h
   dwi := fun c h => by cases h }
 refine kK ?_
 simp only [↓sU,sD,rE,↓reduceIte,rA]
 refine bP (aLr (rb := S.nx) (B := S2.nx) (gb := S6.nx) (cp := cp) (seen := seen) H hone (by omega) hn5 hi5 gB5 (by omega) ⟨rfl, 0, S5.nx, 1, 0, false, .nilsl, .nilsl, .nilsl, [], [], by omega, hB0, ⟨?_, ?_, ?_, ?_, ?_, ?_, ?_, ?_⟩⟩) ?_
 ·simp only [↓sU,sD,rE,↓reduceIte,rA]
 ·simp only [↓sU,sD,rE,↓reduceIte,rA]
 ·simp only [↓sU,sD,rE,↓reduceIte,rA]
 ·simp only [↓sU,sD,rE,↓reduceIte,rA]
 ·simp only [↓sU,sD,rE,↓reduceIte,rA]
 ·simp only [↓sU,sD,rE,↓reduceIte,rA]
 ·simp only [↓sU,sD,rE,↓reduceIte,rA]
 ·simp only [↓sU,sD,rE,↓reduceIte,rA]; try rfl
 clear hB0 g6 g7 g8 s7 v8 k8 s58 s8
 rintro o' ⟨F, inr⟩ X ⟨rfl, q0, c, nb, nn, sz, o, xa, xw, iv, cs, ics, hck, hB, hT⟩
 simp only at q0 hT
 subst q0
 obtain rfl : c = cp := by omega
 try simp only [↓sU,sD,rE,↓reduceIte,rA]
 have nX := hB.same.1
 have grX := (hB.same.2 S.nx (by have := s1.1; omega)).trans gr5
 have lag := iY hB.g
 refine cI ?_
 simp only [↓sU,sD,rE,↓reduceIte,rA, hT.t16, hT.t12, lag]
 refine eH (b := S.nx) (by simp only [↓sU,sD,rE,↓reduceIte,rA, hT.t12]) (by simp only [↓sU,sD,rE,↓reduceIte,rA]; exact bK _) grX rfl rfl ?_
 intro Z z1 z2 z3
 have lagZ := iY z3
 simp only [↓sU,sD,rE,↓reduceIte,rA]
 refine aY ?_
 simp only [↓sU,sD,rE,↓reduceIte,rA, eZ, hT.t12, lagZ]
 have hZ := hB.re (Z := Z) z1.1 fun b hb h5 => z1.2 b hb (by have := s1.1; omega)
 refine ⟨z1.same (sS5.trans hB.same) (Nat.le_refl _), one, _, _, hone, rfl, rfl, hZ.nodes, hZ.inf.is hZ.giv, fun X' hn' hk' => ?_⟩
 have hX := hZ.re (Z := X') hn' fun b hb h5 => hk' b hb (by have := s1.1; have : S5.nx ≤ b := h5; omega)
 exact ⟨hX.nodes, hX.inf.is hX.giv⟩
end Go.Ev.Gl
namespace Go.Ev.Gl
variable {fns : T cA}
theorem aQ.head {k : Nat} {α : Type} {E : St → List AV → α → Prop} {S : St} {v : AV} {l : List α} (h : aQ k E S v l) {n : Nat} (hn : n < l.length) : ∃ v', (∀ (F : Fr) (x : cH), eF (x.val F) = some n → pK (.slice k) v none (some x) none F = some v') ∧ aQ k E S v' (l.take n) := by
 rcases h with ⟨h0, _⟩ | ⟨b, off, cap, o, cs, rfl, hc, hb, hcs, hel⟩
 ·subst h0; cases hn
 ·have e1 : Nat.ble cap cap = true := Nat.ble_eq_true_of_le (Nat.le_refl _)
  have e2 : Nat.ble n cap = true := Nat.ble_eq_true_of_le (by omega)
  have e3 : Nat.ble 0 n = true := Nat.ble_eq_true_of_le (Nat.zero_le _)
  have e4 : Nat.beq cap 0 = false := by rw [Bool.eq_false_iff]; intro h; rw [Nat.beq_eq] at h; omega
  refine ⟨.sl b off n cap o, fun F x hx => ?_, .inr ⟨b, off, cap, o, cs, by rw [List.length_take, Nat.min_eq_left (by omega)], by rw [List.length_take]; omega, hb, hcs, fun i a hi => ?_⟩⟩
  ·simp only [pK, aEK, jE, iL, aF, hx, e1, e2, e3, aG, e4, aM, Nat.sub_zero, Nat.zero_mul, Nat.add_zero, Option.isNone_none]
   cases o <;> rfl
  ·rw [List.getElem?_take] at hi
   split at hi
   ·exact hel i a hi
   ·cases hi
def aLq (r : AV) (Z : St) : Prop := ∃ (g : bG) (nv iv v : AV) (L : List (List Int)), r = .tup [.agg [.int .i64 g.players, nv, iv], v, .bool true] ∧ dF g = 0 ∧ aQ 6 cO Z nv g.nodes ∧ aQ 2 dB Z iv g.infos ∧ aQ 1 SlE Z v L ∧ 1 ≤ L.length ∧ L.length ≤ 5 ∧ ∀ m ∈ L, jA g m ∧ aAj g m
set_option maxHeartbeats 16000000 in
theorem aGe {S : St} {lv : AV} {dl : List Int} {p c : Int} {seen : Bool} (H : Has fns) (hl : bS .i64 S lv dl) (hbd : dl.length ≤ 140737488355328) :
  iQ fns (.fn 15 [] []) [lv, .int .i64 p, .int .i64 c, .bool seen] S fun r Z => Same S Z ∧ aLq r Z := by
 refine cW H.f15 (by simp) ?_
 simp only [↓sU,sD,rE,↓reduceIte,rA]
 refine cI ?_
 refine dD ?_
 intro S1 s1 n1 g1
 simp only [↓aJ,aH,rE,↓reduceIte, rA]
 refine cI ?_
 simp only [↓aJ,aH,rE,↓reduceIte, rA]
 refine bL ?_
 simp only [↓aJ,aH,rE,↓reduceIte, rA]
 refine aW (nJ H (n := 3) (by decide) (by decide)) ?_
 rintro _ S2 ⟨s2, y, rfl, y1, y2⟩
 have w1 : IntKind.i64.wrap (1 + y) = 1 + y := wrap_i64 (by omega) (by omega)
 simp only [↓aJ,aH,rE,↓reduceIte, rA, w1]
 refine bL ?_
 simp only [↓aJ,aH,rE,↓reduceIte, rA]
 refine aW (nJ H (n := 2) (by decide) (by decide)) ?_
 rintro _ S3 ⟨s3, z, rfl, z1, z2⟩
 have w2 : IntKind.i64.wrap (2 + z) = ((2 + z.toNat : Nat) : Int) := by rw [wrap_i64 (by omega) (by omega)]; omega
 simp only [↓aJ,aH,rE,↓reduceIte, rA, w2]
 have hcp : 2 ≤ 2 + z.toNat ∧ 2 + z.toNat ≤ 3 := by omega
 have s13 : Same S S3 := (s1.trans s2).trans s3
 refine bL ?_
 simp only [↓aJ,aH,rE,↓reduceIte, rA]
 refine aW (aE9 (cp := 2 + z.toNat) (seen := seen) H (hl.same s13) hbd (by omega) (by omega) (by omega)) ?_
 rintro _ S4 ⟨s4, one, nv, iv, hone, hps, rfl, hn, hi, hfr⟩
 obtain ⟨g, hg⟩ : ∃ g : bG, g = dC one (2 + z.toNat) seen := ⟨_, rfl⟩
 have hform : dF g = 0 := by rw [hg]; exact (aDe hone (by omega)).1
 have hgp : g.players = 1 + y := by rw [hg, ← hps]; rfl
 rw [← hg] at hn hi hfr
 rw [← hgp]
 have G := jX hform
 try simp only [↓aJ,aH,rE,↓reduceIte, rA]
 refine dD ?_
 intro S5 s5 n5 g5
 try simp only [↓aJ,aH,rE,↓reduceIte, rA]
 refine eH (b := S4.nx) (by simp only [↓aJ,aH,rE,↓reduceIte, rA]) (by simp only [↓aJ,aH,rE,↓reduceIte, rA]; exact bK _) g5 rfl rfl ?_
 intro S6 v6 k6 g6
 try simp only [↓aJ,aH,rE,↓reduceIte, rA]
 have s6 : Same S4 S6 := v6.same s5 (Nat.le_refl _)
 have m4 := s4.1
 have m13 := s13.1
 have m6 := s6.1
 have gr6 : S6.h.get S.nx = some (.cells [.int .i64 0, .nilsl, .nilsl] false 0) := (s6.2 _ (by have := s2.1; have := s3.1; omega)).trans ((s4.2 _ (by have := s2.1; have := s3.1; omega)).trans ((s3.2 _ (by have := s2.1; omega)).trans ((s2.2 _ (by omega)).trans g1)))
 have lr6 : S.nx < S6.nx := by have := s2.1; have := s3.1; omega
 have l6 : S4.nx < S6.nx := by omega
 have sS6 := (s13.trans s4).trans s6
 have hn6 := aQ.same (E := cO) cB hn s6
 have hi6 := aQ.same (E := dB) cU hi s6
 clear v6 g5 s5 k6 n5 g1 hn hi
 have lag6 := iY g6
 refine cI ?_
 simp only [↓sU,sD,rE,↓reduceIte,rA, lag6]
 refine bL ?_
 simp only [↓sU,sD,rE,↓reduceIte,rA]
 refine aW (aGv H hn6 hi6 (by have := G.n2; omega)) ?_
 rintro _ S7 ⟨s7, v, rfl, _, hv⟩
 obtain ⟨T, hT, hTl, hL, hLf⟩ := hv hform
 have hne : 1 ≤ (iB g T g.nodes.length).length := by
  subst hg
  exact aI8 hone hcp hT
 have hall := aIK G hT hTl
 obtain ⟨L, hLe⟩ : ∃ L : List (List Int), L = iB g T g.nodes.length := ⟨_, rfl⟩
 rw [← hLe] at hL hne hall hLf
 clear hLe
 have lvn := aQ.len hL
 rw [hform]
 simp only [↓sU,sD,rE,↓reduceIte,rA, ex0, ex1]
 refine kK ?_
 simp only [↓sU,sD,rE,↓reduceIte,rA, lvn]
 refine aX (by simp only [↓sU,sD,rE,↓reduceIte,rA, decide_eq_false (show ¬ ((L.length : Nat) : Int) < 1 by omega)]; try rfl) (aO ?_)
 try simp only [↓sU,sD,rE,↓reduceIte,rA]
 have g7 := (s7.2 _ l6).trans g6
 have lag7 := iY g7
 have gr7 := (s7.2 _ lr6).trans gr6
 have hn7 := aQ.same (E := cO) cB hn6 s7
 have hi7 := aQ.same (E := dB) cU hi6 s7
 have sS7 := sS6.trans s7
 refine aE (bP (Q := fun o A Z => o = .normal ∧ Z = S7 ∧ A.inr = false ∧ aC 8 A.F = .ptr S.nx 0 ∧ aC 11 A.F = .ptr S4.nx 0 ∧ ∃ (v' : AV) (L' : List (List Int)), aC 12 A.F = v' ∧ (∀ X' : St, S7.nx ≤ X'.nx → (∀ c, c < S7.nx → S6.nx ≤ c → X'.h.get c = S7.h.get c) → aQ 1 SlE X' v' L') ∧ 1 ≤ L'.length ∧ L'.length ≤ 5 ∧ ∀ m ∈ L', jA g m ∧ aAj g m) (aE (aR ?_)) ?_)
 ·simp only [↓sU,sD,rE,↓reduceIte,rA, lvn]
  by_cases h5 : L.length > 5
  ·refine bB (by simp only [↓sU,sD,rE,↓reduceIte,rA, decide_eq_true (show ((L.length : Nat) : Int) > 5 by omega)]) ?_
   obtain ⟨v', e1, e2⟩ := aQ.head hL (n := 5) h5
   have e3 : ∀ X' : St, S7.nx ≤ X'.nx → (∀ c, c < S7.nx → S6.nx ≤ c → X'.h.get c = S7.h.get c) → aQ 1 SlE X' v' (L.take 5) := fun X' a b => by
    obtain ⟨v2, e4, e5⟩ := aQ.head (hLf X' a b) (n := 5) h5
    have := (e1 Ev.T.e (.c (.int .i64 5)) rfl).symm.trans (e4 Ev.T.e (.c (.int .i64 5)) rfl)
    cases this
    exact e5
   have hs : ∀ F : Fr, pK (.slice 1) v none (some (.c (.int .i64 5))) none F = some v' := fun F => e1 F _ rfl
   refine aR ?_
   simp only [↓sU,sD,rE,↓reduceIte,rA, aAZ, hs]
   refine ⟨v', L.take 5, by trivial, e3, by rw [List.length_take]; omega, by rw [List.length_take]; omega, fun m hm => hall m (List.mem_of_mem_take hm)⟩
  ·refine aX (by simp only [↓sU,sD,rE,↓reduceIte,rA, decide_eq_false (show ¬ ((L.length : Nat) : Int) > 5 by omega)]) (aO ?_)
   simp only [↓sU,sD,rE,↓reduceIte,rA]
   refine ⟨v, L, by trivial, hLf, hne, by omega, hall⟩
 rintro o' ⟨F, inr⟩ Zx ⟨rfl, e7, q0, p8, p11, v', L', p12, hL', l1, l5, hall'⟩
 simp only at q0 p8 p11 p12
 subst q0
 rw [e7]
 refine cI ?_
 simp only [↓sU,sD,rE,↓reduceIte,rA, p11, p12, p8, lag7]
 refine eH (b := S.nx) (by simp only [↓sU,sD,rE,↓reduceIte,rA, p8]) (by simp only [↓sU,sD,rE,↓reduceIte,rA]; exact bK _) gr7 rfl rfl ?_
 intro Z z1 z2 z3
 have lagZ := iY z3
 simp only [↓sU,sD,rE,↓reduceIte,rA]
 refine aY ?_
 simp only [↓sU,sD,rE,↓reduceIte,rA, eZ, p8, lagZ]
 have kZ : ∀ b, b < S7.nx → b ≠ S.nx → Z.h.get b = S7.h.get b := fun b hb hne => z1.2 b hb hne
 have nZ := z1.1
 have m7 := s7.1
 obtain ⟨hnZ, hiZ⟩ := hfr Z (by omega) fun b hb hlt => (kZ b (by omega) (by have := s2.1; have := s3.1; omega)).trans ((s7.2 b (by omega)).trans (s6.2 b hb))
 exact ⟨z1.same sS7 (Nat.le_refl _), g, nv, iv, v', L', rfl, hform, hnZ, hiZ, hL' Z nZ fun b hb hlt => kZ b hb (by omega), l1, l5, hall'⟩
end Go.Ev.Gl
namespace Go.Ev.Gl
variable {fns : T cA}
section
variable {S : St} {nv iv av bv : AV} {g : bG} {a b : List Int}
theorem nL (H : Has fns) (hf : dF g = 0) (hn : aQ 6 cO S nv g.nodes) (hi : aQ 2 dB S iv g.infos) (ha : bS .i64 S av a) (hb : bS .i64 S bv b) (A : jA g a) (B : jA g b) :
  iQ fns (.fn 17 [] []) [.agg [.int .i64 g.players, nv, iv], av, bv] S fun r S' => Same S S' ∧ ∃ v, r = .tup [v, .int .i64 0] ∧ bS .i64 S' v (eS a b) :=
 aW (aDt (P := aF9 g a) (P' := aF9 g b) (oka := lL g a) (okb := lL g b) H (xF (g := g) (m := a)) (xF (g := g) (m := b)) hn hi ha hb (by have := (jX hf).n2; omega) (aG1 H hn hi ha) (aG1 H hn hi hb)) fun r S' h => by
  obtain ⟨s, v, e, p⟩ := h
  have e0 : vE g a b (lL g a) (lL g b) = 0 := by
   unfold vE
   rw [A.chk hf, if_neg (fun h => h rfl)]
   exact B.e
  rw [e0] at e p
  exact ⟨s, v, e, p.2 rfl⟩
theorem aCL (H : Has fns) (hf : dF g = 0) (hn : aQ 6 cO S nv g.nodes) (hi : aQ 2 dB S iv g.infos) (ha : bS .i64 S av a) (A : jA g a) :
  iQ fns (.fn 18 [] []) [.agg [.int .i64 g.players, nv, iv], av] S fun r S' => Same S S' ∧ ∃ v, r = .tup [v, .int .i64 0] ∧ bS .i64 S' v (aBf a) :=
 aW (aDu (P := aF9 g a) (ok := lL g a) H (xF (g := g) (m := a)) hn hi ha (by have := (jX hf).n2; omega) (aG1 H hn hi ha)) fun r S' h => by
  obtain ⟨s, v, e, _, p⟩ := h
  rw [A.chk hf] at e
  exact ⟨s, v, e, p (A.chk hf)⟩
theorem aFC (H : Has fns) (hf : dF g = 0) (hn : aQ 6 cO S nv g.nodes) (hi : aQ 2 dB S iv g.infos) (ha : bS .i64 S av a) (A : jA g a) :
  iQ fns (.fn 20 [] []) [.agg [.int .i64 g.players, nv, iv], av] S fun r S' => r = .int .i64 0 ∧ Same S S' :=
 aW (aGd (P := aF9 g a) (ok := lL g a) H (xF (g := g) (m := a)) hn hi ha (by have := (jX hf).n2; omega) (aG1 H hn hi ha)) fun r S' h => by
  rw [A.chk hf] at h
  exact h
end
def UnI (S : St) (x21 x23 x27 x29 x14 : AV) (gb n : Nat) (k : Nat) (A : bT) (X : St) : Prop := A.inr = false ∧ Same S X ∧ ∃ i, i + k = n ∧ aC 11 A.F = .ptr gb 0 ∧ aC 14 A.F = x14 ∧ aC 21 A.F = x21 ∧ aC 23 A.F = x23 ∧ aC 27 A.F = x27 ∧ aC 29 A.F = x29 ∧ aC 31 A.F = .int .i64 (i : Int)
set_option maxHeartbeats 16000000 in
theorem aHN {S : St} {lv : AV} {dl : List Int} {p c i0 i1 i2 : Int} {seen : Bool} (H : Has fns) (hAw : ∀ S, iQ fns (.fn 14 [] []) [] S fun r S' => r = .bool true ∧ Same S S') (hl : bS .i64 S lv dl) (hlb : dl.length ≤ 140737488355328) :
  iQ fns (.fn 3 [] []) [lv, .int .i64 p, .int .i64 c, .bool seen, .agg [.int .i64 i0, .int .i64 i1, .int .i64 i2]] S fun r S' => r = .bool true ∧ Same S S' := by
 refine cW H.f3 (by simp) ?_
 simp only [↓sU,sD,rE,↓reduceIte,rA]
 refine cI ?_
 refine eY (cs := [.int .i64 i0, .int .i64 i1, .int .i64 i2]) rfl ?_
 intro S1 s1 n1 g1
 simp only [↓sU,sD,rE,↓reduceIte,rA]
 refine kK ?_
 simp only [↓sU,sD,rE,↓reduceIte,rA]
 refine bL ?_
 simp only [↓sU,sD,rE,↓reduceIte,rA]
 refine aW (hAw S1) ?_
 rintro _ S2 ⟨rfl, s2⟩
 simp only [↓sU,sD,rE,↓reduceIte,rA, gO, Bool.not_true]
 refine aX (by simp only [↓sU,sD,rE,↓reduceIte,rA]) (aO ?_)
 try simp only [↓sU,sD,rE,↓reduceIte,rA]
 have s12 := s1.trans s2
 have hl2 := hl.same s12
 refine kK ?_
 simp only [↓sU,sD,rE,↓reduceIte,rA, hl2.len, Int.ofNat_eq_natCast]
 by_cases h80 : dl.length > 80
 ·refine bB (by simp only [↓sU,sD,rE,↓reduceIte,rA, decide_eq_true (show ((dl.length : Nat) : Int) > 80 by omega)]) ?_
  refine cI ?_
  simp only [↓sU,sD,rE,↓reduceIte,rA]
  refine aY ?_
  simp only [↓sU,sD,rE,↓reduceIte,rA]
  exact s12
 refine aX (by simp only [↓sU,sD,rE,↓reduceIte,rA, decide_eq_false (show ¬ ((dl.length : Nat) : Int) > 80 by omega)]) (aO ?_)
 try simp only [↓sU,sD,rE,↓reduceIte,rA]
 refine cI ?_
 simp only [↓aJ,aH,rE,↓reduceIte, rA]
 refine bL ?_
 simp only [↓aJ,aH,rE,↓reduceIte, rA]
 refine aW (aGe (p := p) (c := c) (seen := seen) H hl2 hlb) ?_
 rintro _ S3 ⟨s3, g, nv, iv, v, L, rfl, hf, hn, hi, hL, l1, l5, hall⟩
 simp only [↓aJ,aH,rE,↓reduceIte, rA, ex0, ex1, ex2]
 refine dD ?_
 intro S4 s4 n4 g4
 try simp only [↓aJ,aH,rE,↓reduceIte, rA]
 refine eH (b := S3.nx) (by simp only [↓aJ,aH,rE,↓reduceIte, rA]) (by simp only [↓aJ,aH,rE,↓reduceIte, rA]; exact bK _) g4 rfl rfl ?_
 intro S5 v5 k5 g5
 try simp only [↓aJ,aH,rE,↓reduceIte, rA]
 have s35 : Same S3 S5 := v5.same s4 (Nat.le_refl _)
 have m3 := s3.1
 have m2 := s2.1
 have m5 := s35.1
 have G := jX hf
 have sS5 := (s12.trans s3).trans s35
 have hn5 := aQ.same (E := cO) cB hn s35
 have hi5 := aQ.same (E := dB) cU hi s35
 have hL5 := aQ.same (E := SlE) aKj hL s35
 have l9 : S.nx < S5.nx := by omega
 have l11 : S3.nx < S5.nx := by omega
 have g9 : S5.h.get S.nx = some (.cells [.int .i64 i0, .int .i64 i1, .int .i64 i2] false 0) := (s35.2 _ (by omega)).trans ((s3.2 _ (by omega)).trans ((s2.2 _ (by omega)).trans g1))
 clear v5 g4 s4 k5 n4 hn hi hL g1
 try simp only [↓sU,sD,rE,↓reduceIte,rA]
 refine kK ?_
 simp only [↓sU,sD,rE,↓reduceIte,rA, gO, Bool.not_true]
 refine aX (by simp only [↓sU,sD,rE,↓reduceIte,rA]) (aO ?_)
 try simp only [↓sU,sD,rE,↓reduceIte,rA]
 have lvn := aQ.len hL5
 have ia0 : eO (.arr 3 1) (.ptr S.nx 0) 0 = some (.ptr S.nx 0) := rfl
 have ia1 : eO (.arr 3 1) (.ptr S.nx 0) 1 = some (.ptr S.nx 1) := rfl
 have ia2 : eO (.arr 3 1) (.ptr S.nx 0) 2 = some (.ptr S.nx 2) := rfl
 have ld0 : fK (.ptr S.nx 0) false 1 S5.h = some (.int .i64 i0) := cQ (p := 0) g9 rfl
 have ld1 : fK (.ptr S.nx 1) false 1 S5.h = some (.int .i64 i1) := cQ (p := 1) g9 rfl
 have ld2 : fK (.ptr S.nx 2) false 1 S5.h = some (.int .i64 i2) := cQ (p := 2) g9 rfl
 have aCC : eF (.int .i64 0) = some 0 := rfl
 have nat1 : eF (.int .i64 1) = some 1 := rfl
 have nat2 : eF (.int .i64 2) = some 2 := rfl
 refine aE (mT (fun _ => False) ?_)
 intro X0 x0
 simp only [↓sU,sD,rE,↓reduceIte,rA, ia0, ia1, ia2, ld0, ld1, ld2, l9, not_false_eq_true, aCC, nat1, nat2, lvn, eU]
 refine gE rfl ?_
 simp only [↓sU,sD,rE,↓reduceIte,rA]
 refine aW (nJ H (n := ((L.length : Nat) : Int)) (by omega) (by omega)) ?_
 rintro _ X1 ⟨x1, y, rfl, ya, yb⟩
 obtain ⟨ka, rfl⟩ : ∃ k : Nat, y = (k : Int) := ⟨y.toNat, by omega⟩
 obtain ⟨_, b1, q1, ja1, lb1, _, ⟨a1, rfl, h1⟩, _, hf1⟩ := aQ.at hL5 (by decide) (List.getElem?_eq_getElem (show ka < L.length by omega))
 have la1 := hf1 0 a1 rfl
 rw [Nat.add_zero] at la1
 have sa1 := bS.self h1
 obtain ⟨A, A2⟩ := hall _ (List.getElem_mem (show ka < L.length by omega))
 refine ⟨x1, ?_⟩
 simp only [↓sU,sD,rE,↓reduceIte,rA, ia0, ia1, ia2, ld0, ld1, ld2, l9, not_false_eq_true, aCC, nat1, nat2, lvn, eU, aL, ja1, la1, sa1, lb1]
 refine gE rfl ?_
 simp only [↓sU,sD,rE,↓reduceIte,rA]
 refine aW (nJ H (n := ((L.length : Nat) : Int)) (by omega) (by omega)) ?_
 rintro _ X2 ⟨x2, y, rfl, yc, yd⟩
 obtain ⟨kb, rfl⟩ : ∃ k : Nat, y = (k : Int) := ⟨y.toNat, by omega⟩
 obtain ⟨_, b2, q2, ja2, lb2, _, ⟨a2, rfl, h2⟩, _, hf2⟩ := aQ.at hL5 (by decide) (List.getElem?_eq_getElem (show kb < L.length by omega))
 have la2 := hf2 0 a2 rfl
 rw [Nat.add_zero] at la2
 have sa2 := bS.self h2
 obtain ⟨B, B2⟩ := hall _ (List.getElem_mem (show kb < L.length by omega))
 refine ⟨x2, ?_⟩
 simp only [↓sU,sD,rE,↓reduceIte,rA, ia0, ia1, ia2, ld0, ld1, ld2, l9, not_false_eq_true, aCC, nat1, nat2, lvn, eU, aL, ja2, la2, sa2, lb2]
 refine gE rfl ?_
 simp only [↓sU,sD,rE,↓reduceIte,rA]
 refine aW (nJ H (n := ((L.length : Nat) : Int)) (by omega) (by omega)) ?_
 rintro _ X3 ⟨x3, y, rfl, ye, yf⟩
 obtain ⟨kc, rfl⟩ : ∃ k : Nat, y = (k : Int) := ⟨y.toNat, by omega⟩
 obtain ⟨_, b3, q3, ja3, lb3, _, ⟨a3, rfl, h3⟩, _, hf3⟩ := aQ.at hL5 (by decide) (List.getElem?_eq_getElem (show kc < L.length by omega))
 have la3 := hf3 0 a3 rfl
 rw [Nat.add_zero] at la3
 have sa3 := bS.self h3
 obtain ⟨C, C2⟩ := hall _ (List.getElem_mem (show kc < L.length by omega))
 refine ⟨x3, ?_⟩
 simp only [↓sU,sD,rE,↓reduceIte,rA, ia0, ia1, ia2, ld0, ld1, ld2, l9, not_false_eq_true, aCC, nat1, nat2, lvn, eU, aL, ja3, la3, sa3, lb3]
 have t0 : Same S5 X3 := ((x0.trans x1).trans x2).trans x3
 clear x0 x1 x2 x3 hf1 hf2 hf3 la1 la2 la3 ja1 ja2 ja3 ld0 ld1 ld2 ia0 ia1 ia2 g9
 generalize L[ka] = a at h1 A A2
 generalize L[kb] = b at h2 B B2
 generalize L[kc] = d at h3 C C2
 have AB := qC G A B
 have BC := qC G B C
 have ABC := qC G AB C
 have BA := qC G B A
 have iab : aBf (eS a b) = eS b a := aHb G A B A2 B2
 have ia : aBf a = a := aI4 A A2
 have hN := G.n2
 have gX3 := (t0.2 _ l11).trans g5
 refine cI ?_
 simp only [↓sU,sD,rE,↓reduceIte,rA, iY gX3]
 refine bL ?_
 simp only [↓sU,sD,rE,↓reduceIte,rA]
 refine aW (nL H hf (aQ.same (E := cO) cB hn5 t0) (aQ.same (E := dB) cU hi5 t0) (h1.same t0) (h2.same t0) A B) ?_
 rintro _ Y1 ⟨y1, w1, rfl, e1⟩
 simp only [↓sU,sD,rE,↓reduceIte,rA, ex0, ex1]
 have t1 := t0.trans y1
 have gY1 := (t1.2 _ l11).trans g5
 refine cI ?_
 simp only [↓sU,sD,rE,↓reduceIte,rA, iY gY1]
 refine bL ?_
 simp only [↓sU,sD,rE,↓reduceIte,rA]
 refine aW (nL H hf (aQ.same (E := cO) cB hn5 t1) (aQ.same (E := dB) cU hi5 t1) (h2.same t1) (h3.same t1) B C) ?_
 rintro _ Y2 ⟨y2, w2, rfl, e2⟩
 simp only [↓sU,sD,rE,↓reduceIte,rA, ex0, ex1]
 have t2 := t1.trans y2
 have gY2 := (t2.2 _ l11).trans g5
 refine cI ?_
 simp only [↓sU,sD,rE,↓reduceIte,rA, iY gY2]
 refine bL ?_
 simp only [↓sU,sD,rE,↓reduceIte,rA]
 refine aW (nL H hf (aQ.same (E := cO) cB hn5 t2) (aQ.same (E := dB) cU hi5 t2) (e1.same y2) (h3.same t2) AB C) ?_
 rintro _ Y3 ⟨y3, w3, rfl, e3⟩
 simp only [↓sU,sD,rE,↓reduceIte,rA, ex0, ex1]
 have t3 := t2.trans y3
 have gY3 := (t3.2 _ l11).trans g5
 refine cI ?_
 simp only [↓sU,sD,rE,↓reduceIte,rA, iY gY3]
 refine bL ?_
 simp only [↓sU,sD,rE,↓reduceIte,rA]
 refine aW (nL H hf (aQ.same (E := cO) cB hn5 t3) (aQ.same (E := dB) cU hi5 t3) (h1.same t3) (e2.same y3) A BC) ?_
 rintro _ Y4 ⟨y4, w4, rfl, e4⟩
 simp only [↓sU,sD,rE,↓reduceIte,rA, ex0, ex1]
 have t4 := t3.trans y4
 have gY4 := (t4.2 _ l11).trans g5
 refine cI ?_
 simp only [↓sU,sD,rE,↓reduceIte,rA, iY gY4]
 refine bL ?_
 simp only [↓sU,sD,rE,↓reduceIte,rA]
 refine aW (aCL H hf (aQ.same (E := cO) cB hn5 t4) (aQ.same (E := dB) cU hi5 t4) (e1.same ((y2.trans y3).trans y4)) AB) ?_
 rintro _ Y5 ⟨y5, w5, rfl, e5⟩
 rw [iab] at e5
 simp only [↓sU,sD,rE,↓reduceIte,rA, ex0, ex1]
 have t5 := t4.trans y5
 have gY5 := (t5.2 _ l11).trans g5
 refine cI ?_
 simp only [↓sU,sD,rE,↓reduceIte,rA, iY gY5]
 refine bL ?_
 simp only [↓sU,sD,rE,↓reduceIte,rA]
 refine aW (nL H hf (aQ.same (E := cO) cB hn5 t5) (aQ.same (E := dB) cU hi5 t5) (e1.same (((y2.trans y3).trans y4).trans y5)) e5 AB BA) ?_
 rintro _ Y6 ⟨y6, w6, rfl, e6⟩
 simp only [↓sU,sD,rE,↓reduceIte,rA, ex0, ex1]
 have t6 := t5.trans y6
 have gY6 := (t6.2 _ l11).trans g5
 refine cI ?_
 simp only [↓sU,sD,rE,↓reduceIte,rA, iY gY6]
 refine bL ?_
 simp only [↓sU,sD,rE,↓reduceIte,rA]
 refine aW (aCL H hf (aQ.same (E := cO) cB hn5 t6) (aQ.same (E := dB) cU hi5 t6) (h1.same t6) A) ?_
 rintro _ Y7 ⟨y7, w7, rfl, e7⟩
 rw [ia] at e7
 simp only [↓sU,sD,rE,↓reduceIte,rA, ex0, ex1]
 have t7 := t6.trans y7
 have gY7 := (t7.2 _ l11).trans g5
 have e67 := e6.same y7
 have hl6 : (eS (eS a b) (eS b a)).length = g.nodes.length := by rw [fY, fY]; exact A.M.len
 have hnl := aQ.len hn5
 have d0 : decide ((0 : Int) ≠ 0) = false := rfl
 have d1 : decide (((g.nodes.length : Nat) : Int) ≠ ((g.nodes.length : Nat) : Int)) = false := decide_eq_false fun h => h rfl
 refine kK ?_
 simp only [↓sU,sD,rE,↓reduceIte,rA, aB, aA, lI gY7, e67.len, hnl, hl6, Int.ofNat_eq_natCast, d0, d1, beq_self_eq_true]
 refine aX (by simp only [↓sU,sD,rE,↓reduceIte,rA]; try rfl) (aO ?_)
 try simp only [↓sU,sD,rE,↓reduceIte,rA]
 have huno : ∀ j, j < g.nodes.length → (eS (eS a b) (eS b a)).getD j 0 = (j : Int) := fun j hj => aJd A.M B.M A2 B2 hj
 refine kK ?_
 simp only [↓sU,sD,rE,↓reduceIte,rA]
 refine bP (Q := fun o A' X => o = .normal ∧ UnI Y7 w3 w4 w6 w7 a1 S3.nx g.nodes.length 0 A' X) (bE (cS (UnI Y7 w3 w4 w6 w7 a1 S3.nx g.nodes.length) ?_ g.nodes.length _ _ ⟨rfl, Same.refl _, 0, by omega, by simp only [↓sU,sD,rE,↓reduceIte,rA], by simp only [↓sU,sD,rE,↓reduceIte,rA], by simp only [↓sU,sD,rE,↓reduceIte,rA], by simp only [↓sU,sD,rE,↓reduceIte,rA], by simp only [↓sU,sD,rE,↓reduceIte,rA], by simp only [↓sU,sD,rE,↓reduceIte,rA], by simp only [↓sU,sD,rE,↓reduceIte,rA]; try rfl⟩)) ?_
 ·rintro k ⟨F, inr⟩ X ⟨q0, hX, i, hik, p11, p14, p21, p23, p27, p29, p31⟩
  simp only at q0 p11 p14 p21 p23 p27 p29 p31
  subst q0
  have eX := e67.same hX
  refine kK ?_
  simp only [↓sU,sD,rE,↓reduceIte,rA, p27, p31, eX.len, hl6, Int.ofNat_eq_natCast]
  by_cases hlt : i < g.nodes.length
  rotate_left
  ·refine aX (by simp only [↓sU,sD,rE,↓reduceIte,rA, decide_eq_false (show ¬ (i : Int) < ((g.nodes.length : Nat) : Int) by omega)]) (cL ?_)
   simp only [↓sU,sD,rE,↓reduceIte,rA]
   obtain rfl : k = 0 := by omega
   exact ⟨rfl, hX, i, hik, by simp only [↓sU,sD,rE,↓reduceIte,rA, p11], by simp only [↓sU,sD,rE,↓reduceIte,rA, p14], by simp only [↓sU,sD,rE,↓reduceIte,rA, p21], by simp only [↓sU,sD,rE,↓reduceIte,rA, p23], by simp only [↓sU,sD,rE,↓reduceIte,rA, p27], by simp only [↓sU,sD,rE,↓reduceIte,rA, p29], by simp only [↓sU,sD,rE,↓reduceIte,rA, p31]⟩
  refine bB (by simp only [↓sU,sD,rE,↓reduceIte,rA, decide_eq_true (show (i : Int) < ((g.nodes.length : Nat) : Int) by omega)]) (aO ?_)
  try simp only [↓sU,sD,rE,↓reduceIte,rA]
  have w1 : IntKind.i64.wrap ((i : Int) + 1) = ((i + 1 : Nat) : Int) := by rw [wrap_i64 (by omega) (by omega)]; omega
  have iaX := eX.iaddr (show i < (eS (eS a b) (eS b a)).length by omega)
  have laX := eX.ld (show i < (eS (eS a b) (eS b a)).length by omega)
  rw [huno i hlt] at laX
  refine aE (bE (aE (aR ?_)))
  simp only [↓sU,sD,rE,↓reduceIte,rA, p27, p31, aL, iaX, laX]
  refine aX (by simp only [↓sU,sD,rE,↓reduceIte,rA, decide_eq_false (show ¬ (i : Int) ≠ (i : Int) from fun h => h rfl)]) (aO ?_)
  try simp only [↓sU,sD,rE,↓reduceIte,rA]
  refine aR ?_
  simp only [↓sU,sD,rE,↓reduceIte,rA, p31, w1]
  exact ⟨k - 1, by omega, rfl, hX, i + 1, by omega, by simp only [↓sU,sD,rE,↓reduceIte,rA, p11], by simp only [↓sU,sD,rE,↓reduceIte,rA, p14], by simp only [↓sU,sD,rE,↓reduceIte,rA, p21], by simp only [↓sU,sD,rE,↓reduceIte,rA, p23], by simp only [↓sU,sD,rE,↓reduceIte,rA, p27], by simp only [↓sU,sD,rE,↓reduceIte,rA, p29], by simp only [↓sU,sD,rE,↓reduceIte,rA]⟩
 rintro o' ⟨F, inr⟩ X ⟨rfl, q0, hX, i, hik, p11, p14, p21, p23, p27, p29, p31⟩
 simp only at q0 p11 p14 p21 p23 p27 p29 p31
 subst q0
 try simp only [↓sU,sD,rE,↓reduceIte,rA]
 have t8 := t7.trans hX
 have e3X := e3.same ((((y4.trans y5).trans y6).trans y7).trans hX)
 have e4X := e4.same (((y5.trans y6).trans y7).trans hX)
 have e7X := e7.same hX
 rw [← aGa A.M B.M] at e4X
 refine cI ?_
 simp only [↓sU,sD,rE,↓reduceIte,rA, p11, p14, p21, p23, p29]
 refine bL ?_
 simp only [↓sU,sD,rE,↓reduceIte,rA]
 refine aW (tD H e3X e4X (by rw [fY, fY, A.M.len]; omega)) ?_
 rintro _ Z1 ⟨rfl, z1⟩
 rw [decide_eq_true rfl]
 simp only [↓sU,sD,rE,↓reduceIte,rA, p11, p14, p29]
 refine bL ?_
 simp only [↓sU,sD,rE,↓reduceIte,rA]
 refine aW (tD H (e7X.same z1) ((h1.same t8).same z1) (by rw [A.M.len]; omega)) ?_
 rintro _ Z2 ⟨rfl, z2⟩
 rw [decide_eq_true rfl]
 have t9 := (t8.trans z1).trans z2
 have gZ2 := (t9.2 _ l11).trans g5
 simp only [↓sU,sD,rE,↓reduceIte,rA, p11, p21, iY gZ2]
 refine bL ?_
 simp only [↓sU,sD,rE,↓reduceIte,rA]
 refine aW (aFC H hf (aQ.same (E := cO) cB hn5 t9) (aQ.same (E := dB) cU hi5 t9) (e3X.same (z1.trans z2)) ABC) ?_
 rintro _ Z3 ⟨rfl, z3⟩
 simp only [↓sU,sD,rE,↓reduceIte,rA, decide_true]
 refine aY ?_
 simp only [↓sU,sD,rE,↓reduceIte,rA]
 exact sS5.trans (t9.trans z3)
end Go.Ev.Gl
