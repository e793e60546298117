import Derived.Test.YtoojnpjgnnpllaaGl20
open Nat renaming reduceEqDiff → rE, reduceAdd → rA
set_option maxHeartbeats 16000000
set_option linter.unusedSimpArgs false
set_option linter.unusedVariables false
namespace Go.Ev.Gl
variable {fns : T eJ}
theorem nL {l : jO} {i m : Nat} {h h' : Ev.T AB} {r : List (Nat × Nat × Ev.T AB)} (h1 : Nat.testBit l.mask i = false) (h2 : lN l.v (gR l.q l.F h) = true) (h3 : eM l r h' = true) : eM l ((i, m, h') :: r) h = true := by
 unfold eM
 rw [h1, aL, h2, aF, h3]
 cases Nat.testBit m l.i <;> rfl
theorem pK {l : jO} {i m : Nat} {h h' : Ev.T AB} {r : List (Nat × Nat × Ev.T AB)} (h1 : Nat.testBit l.mask i = false) (h2 : lN l.v (gR l.q l.F h) = true) (h3 : Nat.testBit m l.i = true) : eM l ((i, m, h') :: r) h = true := by
 unfold eM
 rw [h1, aL, h2, aF, h3, aF]
theorem iL {F : Fr} {h : Ev.T AB} {x : cK} {p v : AV} (hx : x.val F = p) (hl : fH p false 1 h = some v) (hs : cO v v = true) : lN v (gR (.ld false 1 x) F h) = true := by
 rw [xZ, hx, hl]
 exact hs
theorem aD3 {k n : Nat} {S0 S : St} {v : AV} {cs : List AV} (h : gN k S0 S v n cs) : cO v v = true := by
 rcases h with ⟨rfl, _⟩ | ⟨b, rfl, _⟩
 ·rfl
 ·exact mK ..
noncomputable def aJb : AC := (.drw [oq 50 (.faddr 1 (.t 16)),
om 51 1 (ld 50),
oq 52 (.faddr 1 (.t 16)),
om 53 4 (ld 52),
oq 54 (.faddr 1 (.t 16)),
om 55 16 (ld 54),
om 56 48 (.iaddr (.slice 6) (.t 55) (ci 0)),
om 57 112 (.faddr 3 (.t 56)),
om 58 240 (ld 57),
mt 59 18,
⟨(some 60),(.a (.bslice 3 1 1 [(.int .i64 (.ofNat 0))] [(0,(.t 59))])),none,512⟩,
⟨(some 61),(.x (.app 3 1 8 (.t 58) (.t 60))),none,2032⟩,
oq 62 (.faddr 1 (.t 16)),
om 63 4096 (ld 62),
om 64 12288 (.iaddr (.slice 6) (.t 63) (ci 0)),
om 65 28672 (.faddr 4 (.t 64)),
om 66 61440 (ld 65),
⟨(some 67),(.a (.bslice 3 1 1 [(.int .i64 (.ofNat 0))] [(0,(ci 1))])),none,0⟩,
⟨(some 68),(.x (.app 3 1 8 (.t 66) (.t 67))),none,262128⟩,
om 69 524275 (.iaddr (.slice 6) (.t 51) (ci 0)),
om 70 1048563 (.faddr 3 (.t 69)),
⟨none,(.x (.st 1 (.t 70) (.t 61))),none,2097139⟩,
om 71 4194303 (.iaddr (.slice 6) (.t 53) (ci 0)),
om 72 8388607 (.faddr 4 (.t 71)),
⟨none,(.x (.st 1 (.t 72) (.t 68))),none,16777215⟩])
theorem aI6 {S0 W : St} {F : Fr} {inr : Bool} {gb nb n sz : Nat} {ps w : Int} {iv xa xw k0 k1 k2 xp : AV} {rest : List AV} {o : Bool} {l1 l2 : List Int} {Q : Out → bT → St → Prop} (p16 : aC 16 F = .ptr gb 0) (p18 : aC 18 F = .int .i64 w) (hg : W.h.get gb = some (.cells [.int .i64 ps, .sl nb 0 n n o, iv] false 0)) (hb : W.h.get nb = some (.cells ([k0, k1, k2, xa, xw, xp] ++ rest) o sz)) (hn : 0 < n) (ga : gN 1 S0 W xa l1.length (bB l1)) (gw : gN 1 S0 W xw l2.length (bB l2)) (hS : Same S0 W) (lg : gb < W.nx) (lb : nb < W.nx) (dg : gb ≠ nb) (dga : aQ xa ≠ some gb) (dgw : aQ xw ≠ some gb) (dba : aQ xa ≠ some nb) (dbw : aQ xw ≠ some nb) (daw : ∀ c, aQ xa = some c → aQ xw ≠ some c) (b1 : l1.length ≤ 1000) (b2 : l2.length ≤ 1000)
  (hQ : ∀ F' Z xa' xw', (∀ j, j < 22 → aC j F' = aC j F) → W.nx ≤ Z.nx → Z.h.get nb = some (.cells ([k0, k1, k2, xa', xw', xp] ++ rest) o sz) → gN 1 S0 Z xa' (l1 ++ [w]).length (bB (l1 ++ [w])) → gN 1 S0 Z xw' (l2 ++ [1]).length (bB (l2 ++ [1])) → (∀ c, aQ xa' = some c → W.nx ≤ c ∧ aQ xw' ≠ some c) → (∀ c, aQ xw' = some c → W.nx ≤ c) → (∀ c, c < W.nx → c ≠ nb → aQ xa ≠ some c → aQ xw ≠ some c → Z.h.get c = W.h.get c) → Q .normal ⟨F', inr⟩ Z) :
  kH fns aJb ⟨F, inr⟩ W Q := by
 unfold aJb
 refine qD ?_
 have f1 := cS (p := 1) hg rfl
 have b3 : fH (.ptr nb 3) false 1 W.h = some xa := cS (p := 3) hb rfl
 have ia : eT (.slice 6) (.sl nb 0 n n o) 0 = some (.ptr nb 0) := by
  show bQ (Nat.blt 0 n) (some (AV.ptr nb (0 + 0 * 6))) none = _
  rw [show Nat.blt 0 n = true from Ak hn, aF]
 have sxa := aD3 ga
 have sxw := aD3 gw
 have nat00 : eX (.int .i64 0) = some 0 := rfl
 simp only [Az, Bz, rA]
 simp only [↓sU,sD,rE,↓reduceIte,rA, iU, p16, p18, aA, aB, aO, aL, aF, f1, nat00, ia, b3]
 rw [aDm, mI (n := w) (k := .i64) (by simp only [↓sU,sD,rE,↓reduceIte,rA])]
 simp only [dP]
 obtain ⟨U1, hU1⟩ : ∃ U : St, U = ⟨W.h.set (W.nx + 10) (some (.cells [.int .i64 w] false 0)), W.nx + 25⟩ := ⟨_, rfl⟩
 have sU1 : Same W U1 := by rw [hU1]; exact ⟨by show W.nx ≤ W.nx + 25; omega, fun c hc => by simp only; rw [T.get_set, if_neg (by omega)]⟩
 have gU1 : U1.h.get (W.nx + 10) = some (.cells [.int .i64 w] false 0) := by rw [hU1]; simp only; rw [T.get_set, if_pos rfl]
 have nU1 : U1.nx = W.nx + 25 := by rw [hU1]
 obtain ⟨xa', V1, eA, gA, bA, nA, rA⟩ := gN.push (bytes := 8) (ga.step sU1) (hS.trans sU1) gU1 (by unfold room; omega) (by unfold room; omega)
 have kA : ∀ c, c < W.nx → aQ xa ≠ some c → V1.h.get c = W.h.get c := fun c hc hne => (rA c (by omega) hne).trans (sU1.2 c hc)
 refine kE (v := xa') (S1 := V1) rfl (fun call => ?_) ?_
 ·rw [cR (show Nat.testBit 2032 10 = true by decide), fU]
  simp only [↓sU,sD,rE,↓reduceIte,rA]
  rw [← hU1]
  exact eA
 rw [cR (show Nat.testBit 2032 10 = true by decide)]
 have hg1 := (kA gb lg dga).trans hg
 have hb1 := (kA nb lb dba).trans hb
 have f1' := cS (p := 1) hg1 rfl
 have b4 : fH (.ptr nb 4) false 1 V1.h = some xw := cS (p := 4) hb1 rfl
 simp only [↓sU,sD,rE,↓reduceIte,rA, iU, p16, p18, aA, aB, aO, aL, aF, f1', nat00, ia, b4]
 rw [aDm, mI (n := 1) (k := .i64) rfl]
 simp only [dP]
 obtain ⟨U2, hU2⟩ : ∃ U : St, U = ⟨V1.h.set (W.nx + 17) (some (.cells [.int .i64 1] false 0)), V1.nx⟩ := ⟨_, rfl⟩
 have nU2 : U2.nx = V1.nx := by rw [hU2]
 have kU2 : ∀ c, c ≠ W.nx + 17 → U2.h.get c = V1.h.get c := fun c hc => by rw [hU2]; simp only; rw [T.get_set, if_neg hc]
 have gU2 : U2.h.get (W.nx + 17) = some (.cells [.int .i64 1] false 0) := by rw [hU2]; simp only; rw [T.get_set, if_pos rfl]
 have sS2 : Same S0 U2 := ⟨by have := hS.1; omega, fun c hc => by
  have := hS.1
  rw [kU2 c (by omega), kA c (by omega) (fun e => by have := (ga.blk e).1; omega)]
  exact hS.2 c hc⟩
 have gw2 : gN 1 S0 U2 xw l2.length (bB l2) := gw.move (by omega) fun c hc => by
  have := (gw.blk hc).2.1
  rw [kU2 c (by omega), kA c (by omega) (fun e => daw c e hc)]
 obtain ⟨xw', V2, eW, gW, bW, nW, rW⟩ := gN.push (bytes := 8) gw2 sS2 gU2 (by unfold room; omega) (by unfold room; omega)
 have hxa' : ∀ {c}, aQ xa' = some c → c = U1.nx := fun hc => by rw [bA] at hc; exact (Bq hc).symm
 have hxw' : ∀ {c}, aQ xw' = some c → c = U2.nx := fun hc => by rw [bW] at hc; exact (Bq hc).symm
 have xwl : ∀ {c}, aQ xw = some c → c < W.nx := fun hc => (gw.blk hc).2.1
 have kB : ∀ c, c < W.nx → aQ xa ≠ some c → aQ xw ≠ some c → V2.h.get c = W.h.get c := fun c hc h1 h2 => by
  rw [rW c (by omega) h2, kU2 c (by omega)]
  exact kA c hc h1
 refine kE (v := xw') (S1 := V2) (show Nat.testBit 262128 11 = true by decide) (fun call => ?_) ?_
 ·rw [cR (show Nat.testBit 262128 17 = true by decide), fU]
  simp only [↓sU,sD,rE,↓reduceIte,rA]
  rw [← hU2]
  exact eW
 rw [cR (show Nat.testBit 262128 17 = true by decide)]
 have hg2 := (kB gb lg dga dgw).trans hg
 have hb2 := (kB nb lb dba dbw).trans hb
 have gAc : xa'.cells = some [xa'] := gN.cells gA
 have gWc : xw'.cells = some [xw'] := gN.cells gW
 simp only [↓sU,sD,rE,↓reduceIte,rA, iU, p16, p18, aA, aB, aO, aL, aF, nat00, ia]
 refine kE (v := .undef) (S1 := ⟨V2.h.set nb (some (.cells ([k0, k1, k2, xa', xw, xp] ++ rest) o sz)), V2.nx⟩) (show Nat.testBit 2097139 18 = true by decide) (fun call => ?_) ?_
 ·rw [dW]
  simp only [↓sU,sD,rE,↓reduceIte,rA, cA, gAc, aE]
  exact stc (cs := [k0, k1, k2, xa, xw, xp] ++ rest) (p := 3) (S := V2) hb2 (by simp)
 simp only [↓sU,sD,rE,↓reduceIte,rA, iU, p16, p18, aA, aB, aO, aL, aF, nat00, ia, cA]
 refine kE (v := .undef) (S1 := ⟨(V2.h.set nb (some (.cells ([k0, k1, k2, xa', xw, xp] ++ rest) o sz))).set nb (some (.cells ([k0, k1, k2, xa', xw', xp] ++ rest) o sz)), V2.nx⟩) (show Nat.testBit 16777215 21 = true by decide) (fun call => ?_) ?_
 ·rw [dW]
  simp only [↓sU,sD,rE,↓reduceIte,rA, cA, gWc, aE]
  exact stc (cs := [k0, k1, k2, xa', xw, xp] ++ rest) (p := 4) (S := ⟨V2.h.set nb (some (.cells ([k0, k1, k2, xa', xw, xp] ++ rest) o sz)), V2.nx⟩) (by simp only; rw [T.get_set, if_pos rfl]) (by simp)
 rw [jR]
 refine ⟨?_, ?_⟩
 ·have hg3 : (V2.h.set nb (some (.cells ([k0, k1, k2, xa', xw, xp] ++ rest) o sz))).get gb = some (.cells [.int .i64 ps, .sl nb 0 n n o, iv] false 0) := by rw [T.get_set, if_neg dg]; exact hg2
  have f2 := cS (p := 1) hg2 rfl
  have f3 := cS (p := 1) hg3 rfl
  have b4W : fH (.ptr nb 4) false 1 W.h = some xw := cS (p := 4) hb rfl
  have sn := mK nb 0 n n o
  refine kS fun l hl => ?_
  simp only [Br, List.not_mem_nil, or_false] at hl
  simp only [Cz, List.reverse_nil, Bw, Cp]
  rcases hl with rfl | rfl | rfl | rfl | rfl | rfl
  ·exact nL (show Nat.testBit 61440 11 = false by decide) (iL (by simp only [↓sU,sD,rE,↓reduceIte,rA]) b4W sxw) (pK (show Nat.testBit 61440 18 = false by decide) (iL (by simp only [↓sU,sD,rE,↓reduceIte,rA]) b4 sxw) (show Nat.testBit 262128 16 = true by decide))
  ·exact nL (show Nat.testBit 4096 11 = false by decide) (iL (by simp only [↓sU,sD,rE,↓reduceIte,rA]) f1 sn) (pK (show Nat.testBit 4096 18 = false by decide) (iL (by simp only [↓sU,sD,rE,↓reduceIte,rA]) f1' sn) (show Nat.testBit 262128 13 = true by decide))
  ·exact pK (show Nat.testBit 240 11 = false by decide) (iL (by simp only [↓sU,sD,rE,↓reduceIte,rA]) b3 sxa) (show Nat.testBit 2032 8 = true by decide)
  ·exact pK (show Nat.testBit 16 11 = false by decide) (iL (by simp only [↓sU,sD,rE,↓reduceIte,rA]) f1 sn) (show Nat.testBit 2032 5 = true by decide)
  ·exact nL (show Nat.testBit 4 11 = false by decide) (iL (by simp only [↓sU,sD,rE,↓reduceIte,rA]) f1 sn) (nL (show Nat.testBit 4 18 = false by decide) (iL (by simp only [↓sU,sD,rE,↓reduceIte,rA]) f1' sn) (nL (show Nat.testBit 4 21 = false by decide) (iL (by simp only [↓sU,sD,rE,↓reduceIte,rA]) f2 sn) (pK (show Nat.testBit 4 24 = false by decide) (iL (by simp only [↓sU,sD,rE,↓reduceIte,rA]) f3 sn) (show Nat.testBit 16777215 3 = true by decide))))
  ·exact nL (show Nat.testBit 1 11 = false by decide) (iL (by simp only [↓sU,sD,rE,↓reduceIte,rA]) f1 sn) (nL (show Nat.testBit 1 18 = false by decide) (iL (by simp only [↓sU,sD,rE,↓reduceIte,rA]) f1' sn) (pK (show Nat.testBit 1 21 = false by decide) (iL (by simp only [↓sU,sD,rE,↓reduceIte,rA]) f2 sn) (show Nat.testBit 2097139 1 = true by decide)))
 ·simp only [cA, gH]
  have kZ : ∀ c, c ≠ nb → ((V2.h.set nb (some (.cells ([k0, k1, k2, xa', xw, xp] ++ rest) o sz))).set nb (some (.cells ([k0, k1, k2, xa', xw', xp] ++ rest) o sz))).get c = V2.h.get c := fun c hc => by rw [T.get_set, if_neg hc, T.get_set, if_neg hc]
  refine hQ _ _ xa' xw' (fun j hj => ?_) (by show W.nx ≤ V2.nx; omega) (by simp only; rw [T.get_set, if_pos rfl]) (gA.move (by show V1.nx ≤ V2.nx; omega) fun c hc => ?_) (gW.move (Af _) fun c hc => ?_) (fun c hc => ⟨by have := hxa' hc; omega, fun e => by have := hxa' hc; have := hxw' e; omega⟩) (fun c hc => by have := hxw' hc; omega) fun c hc h1 h2 h3 => (kZ c h1).trans (kB c hc h2 h3)
  ·repeat rw [bL, if_neg (by omega)]
  ·have := hxa' hc
   simp only
   rw [kZ c (by omega), rW c (by omega) (fun e => by have := xwl e; omega), kU2 c (by omega)]
  ·have := hxw' hc
   exact kZ c (by omega)
theorem aMh {S : St} {v : AV} {l : List Int} {k : Nat} (h : bO .i64 S v l) (hk : k < l.length) (hw : ∀ c, aQ v = some c → Wr S c) : ∃ b off, aQ v = some b ∧ b < S.nx ∧ eT (.slice 1) v k = some (.ptr b off) ∧ fH (.ptr b off) false 1 S.h = some (.int .i64 (l.getD k 0)) ∧ ∀ (w : Int) (n : Nat), S.nx ≤ n → ∃ X, (∀ S', S'.h = S.h → nQ (.ptr b off) 1 [.int .i64 w] S' = some (.undef, ⟨X, S'.nx⟩)) ∧ (∀ c, c ≠ b → X.get c = S.h.get c) ∧ bO .i64 ⟨X, n⟩ v (l.set k w) ∧ ∀ c, aQ v = some c → Wr ⟨X, n⟩ c := by
 have ia := h.iaddr hk
 have ld := h.ld hk
 rcases h with ⟨h0, _⟩ | ⟨b, off, cap, o, cs, rfl, hc, hb, hcs, hel⟩
 ·rw [h0] at hk; simp at hk
 ·simp only [zZ] at ia ld
  obtain ⟨cs', o', sz, hg⟩ := hw b rfl
  have e : cs' = cs := by
   unfold cP at hcs
   rw [hg] at hcs
   exact Bq hcs
  subst e
  have hlt : off + k * 1 < cs'.length := by
   have := hel k l[k] (Ab hk)
   have := (Ai.1 this).1
   omega
  refine ⟨b, off + k * 1, rfl, hb, ia, ld, fun w n hn => ⟨S.h.set b (some (.cells (cs'.set (off + k * 1) (.int .i64 w)) o' sz)), fun S' hS' => ?_, fun c hne => by rw [T.get_set, if_neg hne], ?_, fun c hcc => ?_⟩⟩
  ·have := stc (S := S') (b := b) (p := off + k * 1) (w := .int .i64 w) (cs := cs') (o := o') (sz := sz) (by rw [hS']; exact hg) hlt
   rw [hS'] at this
   exact this
  ·refine .inr ⟨b, off, cap, o, cs'.set (off + k * 1) (.int .i64 w), by rw [Au], by rw [Au]; exact hc, Ae hb hn, by unfold cP; simp only; rw [T.get_set, if_pos rfl]; rfl, fun i x hi => ?_⟩
   rw [Di] at hi ⊢
   by_cases e : k = i
   ·subst e
    rw [if_pos rfl, if_pos hk] at hi
    cases hi
    rw [if_pos (by omega), if_pos hlt]
   ·rw [if_neg e] at hi
    rw [if_neg (by omega)]
    exact hel i x hi
  ·cases hcc
   exact ⟨_, _, _, by simp only; rw [T.get_set, if_pos rfl]⟩
def aNW (X : St) (P : Nat → Prop) (_ : St) (e : List AV) (a : cM) : Prop := ∃ xa xw xp, e = [.int .i64 a.kind, .int .i64 a.player, .int .i64 a.info, xa, xw, xp] ∧ bO .i64 X xa a.next ∧ bO .i64 X xw a.weights ∧ bO .i64 X xp a.pay ∧ (∀ c, (aQ xa = some c ∨ aQ xw = some c ∨ aQ xp = some c) → P c) ∧ ∀ c, aQ xa = some c → aQ xw ≠ some c ∧ aQ xp ≠ some c
theorem kO.isF {X0 X : St} {P : Nat → Prop} {pv : AV} {cs : List AV} {l : List cM} (h : kO X P cs l) (hD : aCt cs l.length) (hg : gN 6 X0 X pv l.length cs) : aM 6 (aNW X P) X pv l := by
 rcases hg with ⟨rfl, h0, _⟩ | ⟨b, rfl, _, hb, hc, _⟩
 ·exact .inl ⟨Bo.1 h0, .inl rfl⟩
 ·refine .inr ⟨b, 0, l.length, true, cs, rfl, Af _, hb, by unfold cP; rw [hc]; rfl, fun j a hj => ?_⟩
  obtain ⟨e, e1, e2, xa, xw, xp, h3, h4, h5, h6, h7⟩ := h.2 j a hj
  have hlt := (Ai.1 hj).1
  exact ⟨e, e1, fun q x hq => by rw [Am]; exact e2 q x hq, xa, xw, xp, h3, h4, h5, h6, h7, hD j hlt xa xw xp (e2 3 xa (by rw [h3]; rfl)) (e2 4 xw (by rw [h3]; rfl)) (e2 5 xp (by rw [h3]; rfl))⟩
def sE (cs : List AV) (I : List iC) : Prop := cs.length = I.length * 2 ∧ ∀ (j : Nat) (a : iC), I[j]? = some a → ∀ q x, [AV.int .i64 a.player, .int .i64 a.actions][q]? = some x → cs[j * 2 + q]? = some x
theorem sE.app {cs ds : List AV} {I J : List iC} (h : sE cs I) (h' : sE ds J) : sE (cs ++ ds) (I ++ J) := by
 refine ⟨by rw [Ah, h.1, h'.1, Ah, Dq], fun j a hj q x hq => ?_⟩
 have hq2 : q < 2 := (Ai.1 hq).1
 by_cases e : j < I.length
 ·rw [An e] at hj
  have : (j + 1) * 2 ≤ I.length * 2 := Bu _ e
  rw [An (by rw [h.1]; omega)]
  exact h.2 j a hj q x hq
 ·rw [Ao (by omega)] at hj
  have := h'.2 _ a hj q x hq
  rw [Ao (by rw [h.1]; omega), h.1]
  rw [show j * 2 + q - I.length * 2 = (j - I.length) * 2 + q by omega]
  exact this
theorem sE.is {X0 X : St} {pv : AV} {cs : List AV} {I : List iC} (h : sE cs I) (hg : gN 2 X0 X pv I.length cs) : aM 2 dB X pv I := by
 rcases hg with ⟨rfl, h0, _⟩ | ⟨b, rfl, _, hb, hc, _⟩
 ·exact .inl ⟨Bo.1 h0, .inl rfl⟩
 ·exact .inr ⟨b, 0, I.length, true, cs, rfl, Af _, hb, by unfold cP; rw [hc]; rfl, fun j a hj => ⟨_, rfl, fun q x hq => by rw [Am]; exact h.2 j a hj q x hq, rfl⟩⟩
theorem aJD {S : St} {v : AV} {I : List iC} (h : aM 2 dB S v I) : ∃ new, jZ v = some I.length ∧ eE v S.h 2 I.length = some new ∧ sE new I := by
 obtain ⟨new, h1, h2, h3⟩ := aNz (by decide) h
 refine ⟨new, h1, h2, ?_, fun j a hj q x hq => ?_⟩
 ·rcases h with ⟨rfl, h | h⟩ | ⟨b, off, cap, o, cs, rfl, _⟩
  ·subst h
   have h2 : some [] = some new := h2
   cases h2
   rfl
  ·subst h
   have h2 : some [] = some new := h2
   cases h2
   rfl
  ·have h2 : bE (cP S.h b) (fun cs => cut cs off (I.length * 2)) = some new := h2
   obtain ⟨cs', e1, e2⟩ := aK h2
   unfold cut at e2
   rw [fO, fZ] at e2
   split at e2
   ·rename_i hle
    cases e2
    rw [Cq] at hle
    rw [Bs, Cq]
    omega
   ·cases e2
 ·obtain ⟨e, e1, e2, e3⟩ := h3 j a hj
  have e3 : e = [.int .i64 a.player, .int .i64 a.actions] := e3
  subst e3
  exact e2 q x hq
theorem aHL {S0 S : St} {v x : AV} {cs : List AV} {I J : List iC} (h : gN 2 S0 S v I.length cs) (hI : sE cs I) (hS : Same S0 S) (hx : aM 2 dB S x J) (hb : I.length + J.length ≤ 1000000) : ∃ v' S' cs', gF 16 2 v x S = some (v', S') ∧ gN 2 S0 S' v' (I ++ J).length cs' ∧ sE cs' (I ++ J) ∧ S.nx ≤ S'.nx ∧ (∀ c, c < S.nx → aQ v ≠ some c → S'.h.get c = S.h.get c) ∧ ∀ c, aQ v' = some c → aQ v = some c ∨ S.nx ≤ c := by
 obtain ⟨new, e1, e2, e3⟩ := aJD hx
 rcases Be J.length with h0 | hp
 ·have hJ : J = [] := Bo.1 h0
  subst hJ
  have hn : new = [] := Bo.1 (by rw [e3.1]; rfl)
  subst hn
  rw [Bk]
  refine ⟨v, S, cs, ?_, h, hI, Af _, fun _ _ _ => rfl, fun c hc => .inl hc⟩
  unfold gF
  rw [e1, aE, e2, aE]
  rcases h with ⟨rfl, _⟩ | ⟨b, rfl, _, _, _, _⟩
  ·rfl
  ·show jU 16 2 b 0 I.length I.length true 0 [] S = _
   unfold jU
   rw [Bj, Ak (Af _), aF]
   rfl
 ·obtain ⟨v', S', a1, a2, _, a4, a5, a6⟩ := gN.appB (bytes := 16) h hS e1 e2 (by rw [e3.1]) hp (by unfold room; omega) (by unfold room; omega)
  exact ⟨v', S', cs ++ new, a1, by rw [Ah]; exact a2, hI.app e3, a4, a5, fun c hc => .inr (by rw [a6] at hc; cases hc; exact Af _)⟩
structure TwB (S5 X : St) (gb nb n : Nat) (o : Bool) (sz : Nat) (ps : Int) (xa xw iv : AV) (cs ics : List AV) (A W : List Int) (L : List cM) (I : List iC) : Prop where
 same : Same S5 X
 lg : S5.nx ≤ gb ∧ gb < X.nx
 lb : S5.nx ≤ nb ∧ nb < X.nx
 g : X.h.get gb = some (.cells [.int .i64 ps, .sl nb 0 n n o, iv] false 0)
 b : X.h.get nb = some (.cells ([.int .i64 1, .int .i64 0, .int .i64 0, xa, xw, .nilsl] ++ cs) o sz)
 hn : n = L.length + 1
 osz : o = true → sz = 6
 nod : kO X (fun c => S5.nx ≤ c ∧ c ≠ gb ∧ c ≠ nb ∧ aQ xa ≠ some c ∧ aQ xw ≠ some c ∧ aQ iv ≠ some c) cs L
 gxa : gN 1 S5 X xa A.length (bB A)
 gxw : gN 1 S5 X xw W.length (bB W)
 giv : gN 2 S5 X iv I.length ics
 inf : sE ics I
 dgb : gb ≠ nb
 da : aQ xa ≠ some gb ∧ aQ xa ≠ some nb
 dw : aQ xw ≠ some gb ∧ aQ xw ≠ some nb
 di : aQ iv ≠ some gb ∧ aQ iv ≠ some nb
 daw : ∀ c, aQ xa = some c → aQ xw ≠ some c ∧ aQ iv ≠ some c
 dwi : ∀ c, aQ xw = some c → aQ iv ≠ some c
section
variable {S5 X Z : St} {gb nb n sz : Nat} {o : Bool} {ps w : Int} {xa xw iv : AV} {cs ics : List AV} {A W : List Int} {L : List cM} {I : List iC}
theorem TwB.step (h : TwB S5 X gb nb n o sz ps xa xw iv cs ics A W L I) (hn : X.nx ≤ Z.nx) (hk : ∀ c, c < X.nx → S5.nx ≤ c → Z.h.get c = X.h.get c) (hs : Same S5 Z) : TwB S5 Z gb nb n o sz ps xa xw iv cs ics A W L I where
 same := hs
 lg := ⟨h.lg.1, Ae h.lg.2 hn⟩
 lb := ⟨h.lb.1, Ae h.lb.2 hn⟩
 g := (hk _ h.lg.2 h.lg.1).trans h.g
 b := (hk _ h.lb.2 h.lb.1).trans h.b
 hn := h.hn
 osz := h.osz
 nod := h.nod.move hn fun c hc hP => ⟨hk c hc hP.1, hP⟩
 gxa := h.gxa.move hn fun c hc => hk c (h.gxa.blk hc).2.1 (h.gxa.blk hc).1
 gxw := h.gxw.move hn fun c hc => hk c (h.gxw.blk hc).2.1 (h.gxw.blk hc).1
 giv := h.giv.move hn fun c hc => hk c (h.giv.blk hc).2.1 (h.giv.blk hc).1
 inf := h.inf
 dgb := h.dgb
 da := h.da
 dw := h.dw
 di := h.di
 daw := h.daw
 dwi := h.dwi
theorem TwB.sm (h : TwB S5 X gb nb n o sz ps xa xw iv cs ics A W L I) (hs : Same X Z) : TwB S5 Z gb nb n o sz ps xa xw iv cs ics A W L I := h.step hs.1 (fun c hc _ => hs.2 c hc) (h.same.trans hs)
theorem TwB.root {xa' xw' : AV} (h : TwB S5 X gb nb n o sz ps xa xw iv cs ics A W L I) (hn : X.nx ≤ Z.nx) (hb : Z.h.get nb = some (.cells ([.int .i64 1, .int .i64 0, .int .i64 0, xa', xw', .nilsl] ++ cs) o sz)) (ga : gN 1 S5 Z xa' (A ++ [w]).length (bB (A ++ [w]))) (gw : gN 1 S5 Z xw' (W ++ [1]).length (bB (W ++ [1]))) (ba : ∀ c, aQ xa' = some c → X.nx ≤ c ∧ aQ xw' ≠ some c) (bw : ∀ c, aQ xw' = some c → X.nx ≤ c) (hk : ∀ c, c < X.nx → c ≠ nb → aQ xa ≠ some c → aQ xw ≠ some c → Z.h.get c = X.h.get c) : TwB S5 Z gb nb n o sz ps xa' xw' iv cs ics (A ++ [w]) (W ++ [1]) L I := by
 have lg := h.lg
 have lb := h.lb
 have na : ∀ {c}, c < X.nx → aQ xa' ≠ some c := fun hc e => by have := (ba _ e).1; omega
 have nw : ∀ {c}, c < X.nx → aQ xw' ≠ some c := fun hc e => by have := bw _ e; omega
 exact {
  same := ⟨Al h.same.1 hn, fun c hc => by
   have h0 := h.same.1
   rw [hk c (by omega) (by omega) (fun e => by have := (h.gxa.blk e).1; omega) (fun e => by have := (h.gxw.blk e).1; omega)]
   exact h.same.2 c hc⟩
  lg := ⟨lg.1, by omega⟩
  lb := ⟨lb.1, by omega⟩
  g := (hk gb lg.2 h.dgb h.da.1 h.dw.1).trans h.g
  b := hb
  hn := h.hn
  osz := h.osz
  nod := h.nod.move hn fun c hc hP => ⟨hk c hc hP.2.2.1 hP.2.2.2.1 hP.2.2.2.2.1, hP.1, hP.2.1, hP.2.2.1, na hc, nw hc, hP.2.2.2.2.2⟩
  gxa := ga
  gxw := gw
  giv := h.giv.move hn fun c hc => hk c (h.giv.blk hc).2.1 (fun e => h.di.2 (by rw [hc, e])) (fun e => (h.daw c e).2 hc) fun e => h.dwi c e hc
  inf := h.inf
  dgb := h.dgb
  da := ⟨na lg.2, na lb.2⟩
  dw := ⟨nw lg.2, nw lb.2⟩
  di := h.di
  daw := fun c hc => ⟨(ba c hc).2, fun e => by have := (h.giv.blk e).2.1; have := (ba c hc).1; omega⟩
  dwi := fun c hc e => by have := (h.giv.blk e).2.1; have := bw c hc; omega }
theorem TwB.info {iv' : AV} {ics' : List AV} {J : List iC} (h : TwB S5 X gb nb n o sz ps xa xw iv cs ics A W L I) (hn : X.nx ≤ Z.nx) (gi : gN 2 S5 Z iv' J.length ics') (hi : sE ics' J) (hk : ∀ c, c < X.nx → aQ iv ≠ some c → Z.h.get c = X.h.get c) (hb : ∀ c, aQ iv' = some c → aQ iv = some c ∨ X.nx ≤ c) : TwB S5 ⟨Z.h.set gb (some (.cells [.int .i64 ps, .sl nb 0 n n o, iv'] false 0)), Z.nx⟩ gb nb n o sz ps xa xw iv' cs ics' A W L J := by
 have lg := h.lg
 have lb := h.lb
 have kZ : ∀ c, c < X.nx → c ≠ gb → aQ iv ≠ some c → (Z.h.set gb (some (.cells [.int .i64 ps, .sl nb 0 n n o, iv'] false 0))).get c = X.h.get c := fun c hc h1 h2 => by rw [T.get_set, if_neg h1]; exact hk c hc h2
 have ni : ∀ {c}, c < X.nx → aQ iv ≠ some c → aQ iv' ≠ some c := fun hc h1 e => by
  rcases hb _ e with h2 | h2
  ·exact h1 h2
  ·omega
 have gil : ∀ {c}, aQ iv = some c → S5.nx ≤ c := fun hc => (h.giv.blk hc).1
 exact {
  same := ⟨Al h.same.1 hn, fun c hc => by
   have h0 := h.same.1
   simp only
   rw [kZ c (by omega) (by omega) (fun e => by have := gil e; omega)]
   exact h.same.2 c hc⟩
  lg := ⟨lg.1, by show gb < Z.nx; omega⟩
  lb := ⟨lb.1, by show nb < Z.nx; omega⟩
  g := by simp only; rw [T.get_set, if_pos rfl]
  b := (kZ nb lb.2 h.dgb.symm h.di.2).trans h.b
  hn := h.hn
  osz := h.osz
  nod := h.nod.move hn fun c hc hP => ⟨kZ c hc hP.2.1 hP.2.2.2.2.2, hP.1, hP.2.1, hP.2.2.1, hP.2.2.2.1, hP.2.2.2.2.1, ni hc hP.2.2.2.2.2⟩
  gxa := h.gxa.move hn fun c hc => kZ c (h.gxa.blk hc).2.1 (fun e => h.da.1 (by rw [hc, e])) (h.daw c hc).2
  gxw := h.gxw.move hn fun c hc => kZ c (h.gxw.blk hc).2.1 (fun e => h.dw.1 (by rw [hc, e])) (h.dwi c hc)
  giv := gi.move (Af _) fun c hc => by
   simp only
   rw [T.get_set, if_neg (fun e => ni lg.2 h.di.1 (by rw [hc, e]))]
  inf := hi
  dgb := h.dgb
  da := h.da
  dw := h.dw
  di := ⟨ni lg.2 h.di.1, ni lb.2 h.di.2⟩
  daw := fun c hc => ⟨(h.daw c hc).1, ni (h.gxa.blk hc).2.1 (h.daw c hc).2⟩
  dwi := fun c hc => ni (h.gxw.blk hc).2.1 (h.dwi c hc) }
theorem aHO {S : St} {bytes t : Nat} {new : List AV} (hb : S.h.get nb = some (.cells cs o sz)) (hl : cs.length = n * 6) (hos : o = true → sz = 6) (ht : S.h.get t = some (.cells new false 0)) (hn : new.length = 6) (h1 : n + 1 ≤ room) (h2 : (n + 1) * bytes ≤ room) : ∃ S', gF bytes 6 (.sl nb 0 n n o) (.sl t 0 1 1 false) S = some (.sl S.nx 0 (n + 1) (n + 1) true, S') ∧ S'.nx = S.nx + 1 ∧ S'.h.get S.nx = some (.cells (cs ++ new) true 6) ∧ ∀ c, c < S.nx → c ≠ nb → S'.h.get c = S.h.get c := by
 have hs := aIj (n := 6) ht hn
 have e2 : Nat.ble (n + 1) n = false := by rw [Cb]; intro h; have := Ay h; omega
 have e3 : cut cs 0 (n * 6) = some cs := by
  unfold cut
  rw [fO, fZ, Dk, if_pos (by omega), Bn (by omega)]
 cases o with
 | false =>
  refine ⟨⟨S.h.set S.nx (some (.cells (cs ++ new) true 6)), S.nx + 1⟩, ?_, rfl, by simp only; rw [T.get_set, if_pos rfl], fun c hc _ => by simp only; rw [T.get_set, if_neg (by omega)]⟩
  show (bE (some 1) fun j => bE (eE (.sl t 0 1 1 false) S.h 6 j) fun new => yS (.sl nb 0 n n false) bytes 6 j new S) = _
  rw [aE, hs, aE]
  show jU bytes 6 nb 0 n n false 1 new S = _
  unfold jU
  rw [e2, aL, Ak h1, aF, Ak h2, aF, hb, aE]
  simp only [tQ, e3, aE, aL, grown, fM]
 | true =>
  have hz := hos rfl
  subst hz
  refine ⟨⟨(S.h.set nb none).set S.nx (some (.cells (cs ++ new) true 6)), S.nx + 1⟩, ?_, rfl, by simp only; rw [T.get_set, if_pos rfl], fun c hc hne => by simp only; rw [T.get_set, if_neg (by omega), T.get_set, if_neg hne]⟩
  show (bE (some 1) fun j => bE (eE (.sl t 0 1 1 false) S.h 6 j) fun new => yS (.sl nb 0 n n true) bytes 6 j new S) = _
  rw [aE, hs, aE]
  show jU bytes 6 nb 0 n n true 1 new S = _
  unfold jU
  have e4 : Nat.beq (0 + n * 6) (jY cs) = true := by rw [gG, hl, Bd]; omega
  have e5 : Nat.beq 6 6 = true := Nat.beq_refl 6
  rw [e2, aL, Ak h1, aF, Ak h2, aF, hb, aE]
  simp only [tQ, e3, aE, aF, e4, e5, grown, fM]
theorem TwB.push {e : List AV} {a : cM} {m : Nat} (h : TwB S5 X gb nb n o sz ps xa xw iv cs ics A W L I) (hn : X.nx ≤ m) (hm : m < Z.nx) (he : vN Z (fun c => S5.nx ≤ c ∧ c ≠ gb ∧ c < m ∧ aQ xa ≠ some c ∧ aQ xw ≠ some c ∧ aQ iv ≠ some c) e a) (hb : Z.h.get m = some (.cells (([.int .i64 1, .int .i64 0, .int .i64 0, xa, xw, .nilsl] ++ cs) ++ e) true 6)) (hk : ∀ c, c < X.nx → c ≠ nb → Z.h.get c = X.h.get c) : TwB S5 ⟨Z.h.set gb (some (.cells [.int .i64 ps, .sl m 0 (n + 1) (n + 1) true, iv] false 0)), Z.nx⟩ gb m (n + 1) true 6 ps xa xw iv (cs ++ e) ics A W (L ++ [a]) I := by
 have lg := h.lg
 have lb := h.lb
 have kZ : ∀ c, c < X.nx → c ≠ gb → c ≠ nb → (Z.h.set gb (some (.cells [.int .i64 ps, .sl m 0 (n + 1) (n + 1) true, iv] false 0))).get c = X.h.get c := fun c hc h1 h2 => by rw [T.get_set, if_neg h1]; exact hk c hc h2
 have la : ∀ {c}, aQ xa = some c → c < X.nx := fun hc => (h.gxa.blk hc).2.1
 have lw : ∀ {c}, aQ xw = some c → c < X.nx := fun hc => (h.gxw.blk hc).2.1
 have li : ∀ {c}, aQ iv = some c → c < X.nx := fun hc => (h.giv.blk hc).2.1
 exact {
  same := ⟨by have := h.same.1; show S5.nx ≤ Z.nx; omega, fun c hc => by
   have h0 := h.same.1
   simp only
   rw [kZ c (by omega) (by omega) (by omega)]
   exact h.same.2 c hc⟩
  lg := ⟨lg.1, by show gb < Z.nx; omega⟩
  lb := ⟨by have := h.same.1; omega, hm⟩
  g := by simp only; rw [T.get_set, if_pos rfl]
  b := by
   simp only
   rw [T.get_set, if_neg (by omega), hb, Bf]
  hn := by rw [h.hn, Ah]; rfl
  osz := fun _ => rfl
  nod := kO.push (h.nod.move (by show X.nx ≤ Z.nx; omega) fun c hc hP => ⟨kZ c hc hP.2.1 hP.2.2.1, hP.1, hP.2.1, by omega, hP.2.2.2⟩) (he.move (Af _) fun c _ hP => ⟨by simp only; rw [T.get_set, if_neg hP.2.1], hP.1, hP.2.1, by have := hP.2.2.1; omega, hP.2.2.2⟩)
  gxa := h.gxa.move (by show X.nx ≤ Z.nx; omega) fun c hc => kZ c (la hc) (fun e => h.da.1 (by rw [hc, e])) (fun e => h.da.2 (by rw [hc, e]))
  gxw := h.gxw.move (by show X.nx ≤ Z.nx; omega) fun c hc => kZ c (lw hc) (fun e => h.dw.1 (by rw [hc, e])) (fun e => h.dw.2 (by rw [hc, e]))
  giv := h.giv.move (by show X.nx ≤ Z.nx; omega) fun c hc => kZ c (li hc) (fun e => h.di.1 (by rw [hc, e])) (fun e => h.di.2 (by rw [hc, e]))
  inf := h.inf
  dgb := by omega
  da := ⟨h.da.1, fun e => by have := la e; omega⟩
  dw := ⟨h.dw.1, fun e => by have := lw e; omega⟩
  di := ⟨h.di.1, fun e => by have := li e; omega⟩
  daw := h.daw
  dwi := h.dwi }
theorem TwB.nodes (h : TwB S5 X gb nb n o sz ps xa xw iv cs ics A W L I) : aM 6 cL X (.sl nb 0 n n o) (⟨1, 0, 0, A, W, []⟩ :: L) := by
 have hl : n = (⟨1, 0, 0, A, W, []⟩ :: L : List cM).length := by rw [Az]; exact h.hn
 refine .inr ⟨nb, 0, n, o, _, by rw [← hl], by omega, h.lb.2, by unfold cP; rw [h.b]; rfl, fun j a hj => ?_⟩
 cases j with
 | zero =>
  cases hj
  refine ⟨[.int .i64 1, .int .i64 0, .int .i64 0, xa, xw, .nilsl], rfl, fun q x hq => ?_, xa, xw, .nilsl, rfl, h.gxa.is, h.gxw.is, .inl ⟨rfl, .inl rfl⟩⟩
  have := (Ai.1 hq).1
  rw [show 0 + 0 * 6 + q = q by omega, An this]
  exact hq
 | succ j =>
  have hj : L[j]? = some a := hj
  obtain ⟨e, e1, e2, xa', xw', xp', h3, h4, h5, h6, _⟩ := h.nod.2 j a hj
  refine ⟨e, e1, fun q x hq => ?_, xa', xw', xp', h3, h4, h5, h6⟩
  have := e2 q x hq
  rw [Ao (by show 6 ≤ _; omega)]
  show cs[0 + (j + 1) * 6 + q - 6]? = some x
  rw [show 0 + (j + 1) * 6 + q - 6 = j * 6 + q by omega]
  exact this
end
noncomputable def aMr : List AO := [oq 102 (.faddr 3 (.t 20)),
om 103 1 (ld 102),
mt 104 21,
oq 105 (.faddr 3 (.t 20)),
om 106 8 (ld 105),
mt 107 21,
om 108 56 (.iaddr (.slice 1) (.t 106) (.t 107)),
om 109 120 (ld 108),
mt 110 18,
om 111 504 (bi .add (.t 109) (.t 110)),
om 112 1023 (.iaddr (.slice 1) (.t 103) (.t 104))]
noncomputable def aLQ : AC := (.block 4 (.loop (.seq (.seq (.reg [mt 95 21,
oq 96 (.faddr 3 (.t 20)),
oq 97 (ld 96),
oq 98 (.lenSl (.t 97)),
oq 99 (bi .lss (.t 95) (.t 98))])
(.cond (.t 99) .skip (.exit 4)))
(.seq (.block 5 (.drw [oq 102 (.faddr 3 (.t 20)),
om 103 1 (ld 102),
mt 104 21,
oq 105 (.faddr 3 (.t 20)),
om 106 8 (ld 105),
mt 107 21,
om 108 56 (.iaddr (.slice 1) (.t 106) (.t 107)),
om 109 120 (ld 108),
mt 110 18,
om 111 504 (bi .add (.t 109) (.t 110)),
om 112 1023 (.iaddr (.slice 1) (.t 103) (.t 104)),
⟨none,(.x (.st 1 (.t 112) (.t 111))),none,2047⟩]))
(.reg [mt 100 21,
oq 101 (bi .add (.t 100) (ci 1)),
mt 21 101])))))
def ShI (X : St) (F0 : Fr) (xb : Nat) (v : AV) (cells : List AV) (l : List Int) (f : Int) (k : Nat) (A : bT) (Z : St) : Prop := A.inr = false ∧ X.nx ≤ Z.nx ∧ (∀ c, c < X.nx → aQ v ≠ some c → Z.h.get c = X.h.get c) ∧ Z.h.get xb = some (.cells cells false 0) ∧ ∃ (i : Nat) (l' : List Int), i + k = l.length ∧ l'.length = l.length ∧ (∀ j, j < l.length → l'.getD j 0 = if j < i then l.getD j 0 + f else l.getD j 0) ∧ bO .i64 Z v l' ∧ (∀ c, aQ v = some c → Wr Z c) ∧ (∀ j, j < 21 → aC j A.F = aC j F0) ∧ aC 21 A.F = .int .i64 (i : Int)
theorem aLg {X : St} {F : Fr} {xb : Nat} {v k0 k1 k2 xw xp : AV} {l : List Int} {f : Int} (hv : bO .i64 X v l) (hw : ∀ c, aQ v = some c → Wr X c) (hx : X.h.get xb = some (.cells [k0, k1, k2, v, xw, xp] false 0)) (hxv : aQ v ≠ some xb) (hl : l.length ≤ 1000) (hb : ∀ j, j < l.length → 0 ≤ l.getD j 0 ∧ l.getD j 0 ≤ 100000) (hf : 0 ≤ f ∧ f ≤ 100000) (p18 : aC 18 F = .int .i64 f) (p20 : aC 20 F = .ptr xb 0) (p21 : aC 21 F = .int .i64 0) :
  kH fns aLQ ⟨F, false⟩ X fun o A Z => o = .normal ∧ ShI X F xb v [k0, k1, k2, v, xw, xp] l f 0 A Z := by
 unfold aLQ
 refine aU (cI (ShI X F xb v [k0, k1, k2, v, xw, xp] l f) ?_ l.length _ _ ⟨rfl, Af _, fun _ _ _ => rfl, hx, 0, l, by omega, rfl, fun j hj => by rw [if_neg (by omega)], hv, hw, fun _ _ => rfl, p21⟩)
 clear hv hw hx p21
 rintro k ⟨F', inr⟩ Z ⟨q0, nZ, kZ, hx, i, l', hik, hl', hg, hv, hw, hk, p21⟩
 simp only at q0 hk p21
 subst q0
 have q18 := (hk 18 (by omega)).trans p18
 have q20 := (hk 20 (by omega)).trans p20
 refine jH ?_
 simp only [↓sU,sD,rE,↓reduceIte,rA, q20, p21, aA, aB, eV hx, hv.len, Aj]
 by_cases hlt : i < l.length
 rotate_left
 ·refine aT (by simp only [↓sU,sD,rE,↓reduceIte,rA, Aa (show ¬ (i : Int) < ((l'.length : Nat) : Int) by omega)]) (cC ?_)
  simp only [↓sU,sD,rE,↓reduceIte,rA]
  obtain rfl : k = 0 := by omega
  refine ⟨rfl, nZ, kZ, hx, i, l', hik, hl', hg, hv, hw, fun j hj => ?_, by simp only [↓sU,sD,rE,↓reduceIte,rA, p21]⟩
  repeat rw [bL, if_neg (by omega)]
  exact hk j hj
 refine aY (by simp only [↓sU,sD,rE,↓reduceIte,rA, Ad (show (i : Int) < ((l'.length : Nat) : Int) by omega)]) (aN ?_)
 try simp only [↓sU,sD,rE,↓reduceIte,rA]
 have w1 : IntKind.i64.wrap ((i : Int) + 1) = ((i + 1 : Nat) : Int) := by rw [wrap_i64 (by omega) (by omega)]; omega
 have hgi := hg i hlt
 rw [if_neg (by omega)] at hgi
 have hbi := hb i hlt
 have w2 : IntKind.i64.wrap (l'.getD i 0 + f) = l.getD i 0 + f := by rw [hgi]; exact wrap_i64 (by omega) (by omega)
 obtain ⟨b, off, e1, e2, e3, e4, e5⟩ := aMh hv (k := i) (by omega) hw
 obtain ⟨Xh, x1, x2, x3, x4⟩ := e5 (l.getD i 0 + f) (Z.nx + 12) (by omega)
 have svv := bO.self hv
 have hbx : b ≠ xb := fun e => hxv (by rw [e1, e])
 refine aD (aU (mL (pre := aMr) (K := 11) (m := 2047) (n := 1) (x := .t 112) (v := .t 111) rfl rfl rfl rfl ?_))
 unfold aMr
 simp only [↓sU,sD,rE,↓reduceIte,rA, q18, q20, p21, aA, aO, aB, eV hx, svv, aG, e3, e4, w2]
 simp only [cT, aE]
 refine ⟨_, x1 ⟨Z.h, Z.nx + 12⟩ rfl, ?_⟩
 try simp only [↓sU,sD,rE,↓reduceIte,rA]
 refine aP ?_
 simp only [↓sU,sD,rE,↓reduceIte,rA, p21, w1]
 refine ⟨k - 1, by omega, rfl, by show X.nx ≤ Z.nx + 12; omega, fun c hc hne => (x2 c (fun e => hne (by rw [e1, e]))).trans (kZ c hc hne), (x2 xb hbx.symm).trans hx, i + 1, l'.set i (l.getD i 0 + f), by omega, by rw [Au]; exact hl', fun j hj => ?_, x3, x4, fun j hj => ?_, by simp only [↓sU,sD,rE,↓reduceIte,rA]⟩
 ·rw [fS (by omega)]
  by_cases e : j = i
  ·rw [if_pos e, if_pos (by omega), e]
  ·rw [if_neg e, hg j hj]
   by_cases e2 : j < i
   ·rw [if_pos e2, if_pos (by omega)]
   ·rw [if_neg e2, if_neg (by omega)]
 ·repeat rw [bL, if_neg (by omega)]
  exact hk j hj
theorem aL9 {l l' : List Int} {f : Int} (hl : l'.length = l.length) (h : ∀ j, j < l.length → l'.getD j 0 = if j < l.length then l.getD j 0 + f else l.getD j 0) : l' = l.map (· + f) := tG (by rw [hl, Av]) fun j hj => by
 rw [h j (by omega), if_pos (by omega), wF (by omega)]
structure TwT (F : Fr) (rb B gb n m cp : Nat) (seen : Bool) (c : Nat) : Prop where
 t3 : aC 3 F = .int .i64 (cp : Int)
 t4 : aC 4 F = .bool seen
 t12 : aC 12 F = .ptr rb 0
 t13 : aC 13 F = .ptr B 0
 t14 : aC 14 F = .int .i64 (n : Int)
 t15 : aC 15 F = .int .i64 (m : Int)
 t16 : aC 16 F = .ptr gb 0
 t17 : aC 17 F = .int .i64 (c : Int)
theorem TwT.of {F F' : Fr} {rb B gb n m cp c : Nat} {seen : Bool} (h : TwT F rb B gb n m cp seen c) (hk : ∀ j, j < 18 → aC j F' = aC j F) : TwT F' rb B gb n m cp seen c :=
 ⟨(hk 3 (by omega)).trans h.t3, (hk 4 (by omega)).trans h.t4, (hk 12 (by omega)).trans h.t12, (hk 13 (by omega)).trans h.t13, (hk 14 (by omega)).trans h.t14, (hk 15 (by omega)).trans h.t15, (hk 16 (by omega)).trans h.t16, (hk 17 (by omega)).trans h.t17⟩
noncomputable def aLM : AC := (.block 2 (.loop (.seq (.seq (.reg [mt 84 19,
mt 85 14,
oq 86 (bi .lss (.t 84) (.t 85))])
(.cond (.t 86) .skip (.exit 2)))
(.seq (.block 3 (.seq (.reg [oq 89 (.ld true 3 (.t 13)),
oc 90 41 [(.t 89)] 0,
oq 91 (.fld false 1 1 (.t 90)),
mt 92 19,
oq 93 (.iaddr (.slice 6) (.t 91) (.t 92)),
oq 94 (.ld true 6 (.t 93)),
⟨(some 20),(.a (.alloc 64 [(.int .i64 (.ofNat 0)),(.int .i64 (.ofNat 0)),(.int .i64 (.ofNat 0)),.nilsl,.nilsl,.nilsl])),none,0⟩,
⟨none,(.x (.st 6 (.t 20) (.t 94))),none,0⟩])
(.seq (.seq (.reg [oq 21 (.mv (ci 0))])
aLQ)
(.seq (.seq (.reg [oq 113 (.faddr 0 (.t 20)),
oq 114 (ld 113),
oq 115 (bi .eql (.t 114) (ci 2)),
mt 116 115,
og 117 116 true 0 (.mv (.t 4)),
oq 118 (.pick (.t 116) (.t 117) (.c (.bool false)))])
(.cond (.t 118) (.reg [oq 119 (.faddr 2 (.t 20)),
oq 120 (ld 119),
mt 121 17,
mt 122 15,
oq 123 (bi .mul (.t 121) (.t 122)),
oq 124 (bi .add (.t 120) (.t 123)),
oq 125 (.faddr 2 (.t 20)),
⟨none,(.x (.st 1 (.t 125) (.t 124))),none,0⟩]) .skip))
(.reg [oq 126 (.faddr 1 (.t 16)),
oq 127 (ld 126),
oq 128 (.ld true 6 (.t 20)),
⟨(some 129),(.a (.bslice 64 6 1 [(.int .i64 (.ofNat 0)),(.int .i64 (.ofNat 0)),(.int .i64 (.ofNat 0)),.nilsl,.nilsl,.nilsl] [(0,(.t 128))])),none,0⟩,
⟨(some 130),(.x (.app 64 6 96 (.t 127) (.t 129))),none,0⟩,
oq 131 (.faddr 1 (.t 16)),
⟨none,(.x (.st 1 (.t 131) (.t 130))),none,0⟩])))))
(.reg [mt 87 19,
oq 88 (bi .add (.t 87) (ci 1)),
mt 19 88])))))
def LmI (S5 : St) (rb B gb cp : Nat) (one : bF) (seen : Bool) (c : Nat) (k : Nat) (A : bT) (X : St) : Prop := A.inr = false ∧ ∃ (i nb nn sz : Nat) (o : Bool) (xa xw iv : AV) (cs ics : List AV), i + k = one.nodes.length ∧ TwB S5 X gb nb nn o sz one.players xa xw iv cs ics (jV one.nodes.length (c + 1)) (List.replicate (c + 1) 1) (iY one seen c ++ (mT one seen c).take i) (iN one seen (c + 1)) ∧ TwT A.F rb B gb one.nodes.length one.infos.length cp seen c ∧ aC 18 A.F = .int .i64 ((1 + c * one.nodes.length : Nat) : Int) ∧ aC 19 A.F = .int .i64 (i : Int)
theorem aJ7 {g : bF} (h : dF g = 0) : aNl g := by
 have G := jA h
 refine ⟨by have := G.ni; omega, fun x hx => ?_⟩
 obtain ⟨j, hj, rfl⟩ := Eb.1 hx
 have e : nodeAt g j = g.nodes[j] := uB (Ab hj)
 have a := G.nxt j hj
 have b := aEm (aBC h hj)
 have c := G.pay j hj
 rw [e] at a b c
 omega
theorem aHD {one : bF} {seen : Bool} {c i : Nat} (hi : i < one.nodes.length) : (mT one seen c).take (i + 1) = (mT one seen c).take i ++ [shN ((1 + c * one.nodes.length : Nat) : Int) ((iR one seen c : Nat) : Int) (nodeAt one i)] := by
 have : (mT one seen c)[i]? = some (shN ((1 + c * one.nodes.length : Nat) : Int) ((iR one seen c : Nat) : Int) (nodeAt one i)) := by
  unfold mT
  rw [Bc, dI hi]
  rfl
 rw [Cl, this]
 rfl
theorem aLV {S5 X : St} {F : Fr} {rb B gb cp c : Nat} {one : bF} {seen : Bool} {nv0 iv0 : AV} (H : Has fns) (hone : rH one) (hc : c < 3) (hn : aM 6 cL S5 nv0 one.nodes) (hi : aM 2 dB S5 iv0 one.infos) (gB : S5.h.get B = some (.cells [.int .i64 one.players, nv0, iv0] false 0)) (lB : B < S5.nx) (h0 : LmI S5 rb B gb cp one seen c one.nodes.length ⟨F, false⟩ X) :
  kH fns aLM ⟨F, false⟩ X fun o A Z => o = .normal ∧ LmI S5 rb B gb cp one seen c 0 A Z := by
 have hform := hone.form
 have G := jA hform
 have hn60 := hone.n2
 have hm60 : one.infos.length ≤ 60 := by have := hone.ord.le; rw [Av] at this; omega
 have hcn : c * one.nodes.length ≤ 2 * 60 := Dl (by omega) hn60
 have hcm : c * one.infos.length ≤ 2 * 60 := Dl (by omega) hm60
 have hcL : (iY one seen c).length = c * one.nodes.length := jJ
 unfold aLM
 refine aU (cI (LmI S5 rb B gb cp one seen c) ?_ one.nodes.length _ _ h0)
 clear h0
 rintro k ⟨F, inr⟩ X ⟨q0, i, nb, nn, sz, o, xa, xw, iv, cs, ics, hik, hB, hT, p18, p19⟩
 simp only at q0 hT p18 p19
 subst q0
 refine jH ?_
 simp only [↓sU,sD,rE,↓reduceIte,rA, hT.t14, p19]
 by_cases hlt : i < one.nodes.length
 rotate_left
 ·refine aT (by simp only [↓sU,sD,rE,↓reduceIte,rA, Aa (show ¬ (i : Int) < ((one.nodes.length : Nat) : Int) by omega)]) (cC ?_)
  simp only [↓sU,sD,rE,↓reduceIte,rA]
  obtain rfl : k = 0 := by omega
  refine ⟨rfl, i, nb, nn, sz, o, xa, xw, iv, cs, ics, hik, hB, hT.of fun j hj => ?_, by refine ⟨?_,?_⟩<;>simp only [↓sU,sD,rE,↓reduceIte,rA,p18,p19]⟩
  repeat rw [bL, if_neg (by omega)]
 refine aY (by simp only [↓sU,sD,rE,↓reduceIte,rA, Ad (show (i : Int) < ((one.nodes.length : Nat) : Int) by omega)]) (aN ?_)
 try simp only [↓sU,sD,rE,↓reduceIte,rA]
 have w1 : IntKind.i64.wrap ((i : Int) + 1) = ((i + 1 : Nat) : Int) := by rw [wrap_i64 (by omega) (by omega)]; omega
 have nX := hB.same.1
 have gBX := (hB.same.2 B lB).trans gB
 have hLlen : (iY one seen c ++ (mT one seen c).take i).length ≤ 1000 := by
  rw [Ah, hcL, Bs, tF]
  omega
 refine aD (aU (aD (aP ?_)))
 simp only [↓aH,aJ,rE,↓reduceIte, rA, hT.t13, jF gBX]
 refine bJ ?_
 simp only [↓aH,aJ,rE,↓reduceIte, rA]
 refine aW (aGR H (aM.same (E := cL) cB hn hB.same) (aM.same (E := dB) cQ hi hB.same) (aJ7 hform) (by omega)) ?_
 rintro _ Y ⟨hY, mv, jv, nz, ds, rfl, hnz, gM, bM, dM, _⟩
 have hF := bM.isF dM gM
 obtain ⟨e, be, pe, hia, hbe, _, ⟨xa2, xw2, xp2, rfl, ia2, iw2, ip2, hP, hdj⟩, hld, _⟩ := aM.at hF (by decide) (dI hlt)
 have hfv : aFg (.agg [.int .i64 one.players, mv, jv]) false 1 1 = some mv := rfl
 simp only [↓aH,aJ,rE,↓reduceIte, rA, hfv, p19, aG, hia, hld]
 refine dC ?_
 intro W1 v1 k1 h1
 try simp only [↓aH,aJ,rE,↓reduceIte, rA]
 refine dU (b := Y.nx) (by simp only [↓aH,aJ,rE,↓reduceIte, rA]) (by simp only [↓aH,aJ,rE,↓reduceIte, rA]; exact bK _) h1 rfl rfl ?_
 intro Y2 v2 k2 h2
 simp only [↓aH,aJ,rE,↓reduceIte, rA]
 have sY : Same Y Y2 := v2.same v1 (Af _)
 have sXY := hY.trans sY
 have nY := hY.1
 have nY2 := sY.1
 have lxb : Y.nx < Y2.nx := by omega
 clear v1 v2 h1 k1
 have la2 : ∀ {c}, aQ xa2 = some c → c < Y.nx := fun hc => dV ia2 hc
 have lw2 : ∀ {c}, aQ xw2 = some c → c < Y.nx := fun hc => dV iw2 hc
 have lp2 : ∀ {c}, aQ xp2 = some c → c < Y.nx := fun hc => dV ip2 hc
 have gnx := G.nxt i hlt
 refine jH ?_
 simp only [↓sU,sD,rE,↓reduceIte,rA]
 refine bN (aLg (X := Y2) (xb := Y.nx) (v := xa2) (xw := xw2) (xp := xp2) (l := (nodeAt one i).next) (f := ((1 + c * one.nodes.length : Nat) : Int)) (ia2.same sY) (fun b hb => (hP b (.inl hb)).2.2.eq (sY.2 b (la2 hb))) h2 (fun e => by have := la2 e; omega) gnx (fun j hj => by have := G.kids i hlt j hj; omega) (by omega) (by simp only [↓sU,sD,rE,↓reduceIte,rA, p18]) (by simp only [↓sU,sD,rE,↓reduceIte,rA]) (by simp only [↓sU,sD,rE,↓reduceIte,rA]; try rfl)) ?_
 rintro o' ⟨F2, inr⟩ Z ⟨rfl, q0, nZ, kZ, hx, i', l', hik', hl', hg', hv', _, hk, _⟩
 simp only at q0 hk
 subst q0
 obtain rfl : i' = (nodeAt one i).next.length := by omega
 obtain rfl := aL9 hl' hg'
 have T2 : TwT F2 rb B gb one.nodes.length one.infos.length cp seen c := hT.of fun j hj => by
  rw [hk j (by omega)]
  repeat rw [bL, if_neg (by omega)]
 have q18 : aC 18 F2 = .int .i64 ((1 + c * one.nodes.length : Nat) : Int) := (hk 18 (by omega)).trans (by simp only [↓sU,sD,rE,↓reduceIte,rA, p18])
 have q19 : aC 19 F2 = .int .i64 (i : Int) := (hk 19 (by omega)).trans (by simp only [↓sU,sD,rE,↓reduceIte,rA, p19])
 have q20 : aC 20 F2 = .ptr Y.nx 0 := (hk 20 (by omega)).trans (by simp only [↓sU,sD,rE,↓reduceIte,rA])
 clear hk hg' hl'
 have kXZ : ∀ b, b < X.nx → Z.h.get b = X.h.get b := fun b hb => by
  rw [kZ b (by omega) (fun e => by have := (hP b (.inl e)).1; omega)]
  exact sXY.2 b hb
 have iwZ : bO .i64 Z xw2 (nodeAt one i).weights := fF (iw2.same sY) nZ fun b hb => kZ b (by have := lw2 hb; omega) fun e => (hdj b e).1 hb
 have ipZ : bO .i64 Z xp2 (nodeAt one i).pay := fF (ip2.same sY) nZ fun b hb => kZ b (by have := lp2 hb; omega) fun e => (hdj b e).2 hb
 have hinf : (nodeAt one i).kind = 2 → 0 ≤ (nodeAt one i).info ∧ (nodeAt one i).info < one.infos.length := fun hk => ⟨(G.inf i hlt hk).1, (G.inf i hlt hk).2.1⟩
 try simp only [↓sU,sD,rE,↓reduceIte,rA]
 refine aD (bN (Q := fun o A' Z' => o = .normal ∧ A'.inr = false ∧ Z'.nx = Z.nx ∧ (∀ b, b ≠ Y.nx → Z'.h.get b = Z.h.get b) ∧ Z'.h.get Y.nx = some (.cells [.int .i64 (nodeAt one i).kind, .int .i64 (nodeAt one i).player, .int .i64 (shN ((1 + c * one.nodes.length : Nat) : Int) ((iR one seen c : Nat) : Int) (nodeAt one i)).info, xa2, xw2, xp2] false 0) ∧ TwT A'.F rb B gb one.nodes.length one.infos.length cp seen c ∧ aC 18 A'.F = .int .i64 ((1 + c * one.nodes.length : Nat) : Int) ∧ aC 19 A'.F = .int .i64 (i : Int) ∧ aC 20 A'.F = .ptr Y.nx 0) (aD (aP ?_)) ?_)
 ·have t4 := T2.t4
  by_cases hk2 : (nodeAt one i).kind = 2
  ·simp only [↓sU,sD,rE,↓reduceIte,rA, q20, t4, aA, aB, fD hx, Ad hk2]
   have einf : (shN ((1 + c * one.nodes.length : Nat) : Int) ((iR one seen c : Nat) : Int) (nodeAt one i)).info = (nodeAt one i).info + ((iR one seen c : Nat) : Int) := by
    show (if (nodeAt one i).kind = 2 then _ else _) = _
    rw [if_pos hk2]
   obtain ⟨i1, i2⟩ := hinf hk2
   cases hs : seen with
   | true =>
    refine aY (by simp only [↓sU,sD,rE,↓reduceIte,rA]; try rfl) ?_
    have eo : iR one true c = c * one.infos.length := by unfold iR; rw [if_pos rfl]
    have w2 : IntKind.i64.wrap ((c : Int) * (one.infos.length : Int)) = ((c * one.infos.length : Nat) : Int) := by rw [← Eg]; exact wrap_i64 (by omega) (by omega)
    have w3 : IntKind.i64.wrap ((nodeAt one i).info + ((c * one.infos.length : Nat) : Int)) = (nodeAt one i).info + ((c * one.infos.length : Nat) : Int) := wrap_i64 (by omega) (by omega)
    rw [hs, eo] at einf
    refine aP ?_
    simp only [↓sU,sD,rE,↓reduceIte,rA, q20, T2.t15, T2.t17, aA, aB, fP hx, w2, w3]
    refine fX (v := .undef) (S1 := ⟨Z.h.set Y.nx (some (.cells [.int .i64 (nodeAt one i).kind, .int .i64 (nodeAt one i).player, .int .i64 ((nodeAt one i).info + ((c * one.infos.length : Nat) : Int)), xa2, xw2, xp2] false 0)), Z.nx⟩) (fun call => by simp only [↓sU,sD,rE,↓reduceIte,rA, dW, cT]; exact stc (cs := [.int .i64 (nodeAt one i).kind, .int .i64 (nodeAt one i).player, .int .i64 (nodeAt one i).info, xa2, xw2, xp2]) (p := 2) hx (by simp)) ?_
    simp only [↓sU,sD,rE,↓reduceIte,rA]
    refine ⟨fun b hb => by rw [T.get_set, if_neg hb], by rw [T.get_set, if_pos rfl, eo, einf], ?_, q18, q19, q20⟩
    rw [← hs]
    exact T2.of fun j hj => by repeat rw [bL, if_neg (by omega)]
   | false =>
    refine aT (by simp only [↓sU,sD,rE,↓reduceIte,rA]; try rfl) (aN ?_)
    have eo : iR one false c = 0 := by unfold iR; rw [if_neg (by decide)]
    rw [hs, eo] at einf
    simp only [↓sU,sD,rE,↓reduceIte,rA]
    refine ⟨fun _ _ => by trivial, ?_, ?_, q18, q19, q20⟩
    ·rw [eo, einf, hx]
     show some (AB.cells [_, _, AV.int .i64 (nodeAt one i).info, _, _, _] _ _) = some (AB.cells [_, _, AV.int .i64 ((nodeAt one i).info + ((0 : Nat) : Int)), _, _, _] _ _)
     rw [show (nodeAt one i).info + ((0 : Nat) : Int) = (nodeAt one i).info by omega]
    ·rw [← hs]
     exact T2.of fun j hj => by repeat rw [bL, if_neg (by omega)]
  ·simp only [↓sU,sD,rE,↓reduceIte,rA, q20, t4, aA, aB, fD hx, Aa hk2]
   refine aT (by simp only [↓sU,sD,rE,↓reduceIte,rA]; try rfl) (aN ?_)
   have einf : (shN ((1 + c * one.nodes.length : Nat) : Int) ((iR one seen c : Nat) : Int) (nodeAt one i)).info = (nodeAt one i).info := by
    show (if (nodeAt one i).kind = 2 then _ else _) = _
    rw [if_neg hk2]
   simp only [↓sU,sD,rE,↓reduceIte,rA]
   refine ⟨fun _ _ => by trivial, by rw [einf]; exact hx, T2.of fun j hj => by repeat rw [bL, if_neg (by omega)], q18, q19, q20⟩
 rintro o' ⟨F3, inr⟩ Z' ⟨rfl, q0, nZ', kZ', hx', T3, r18, r19, r20⟩
 simp only at q0 T3 r18 r19 r20
 subst q0
 have sXZ : Same X Z' := ⟨by omega, fun c hc => (kZ' c (by omega)).trans (kXZ c hc)⟩
 have hB0 := hB
 have hB := hB.sm sXZ
 have hlen := hB.hn
 rw [Ah, hcL, Bs, tF, Nat.min_eq_left (by omega)] at hlen
 have hnb : vN Z' (fun c => X.nx ≤ c ∧ c < Z'.nx) [.int .i64 (nodeAt one i).kind, .int .i64 (nodeAt one i).player, .int .i64 (shN ((1 + c * one.nodes.length : Nat) : Int) ((iR one seen c : Nat) : Int) (nodeAt one i)).info, xa2, xw2, xp2] (shN ((1 + c * one.nodes.length : Nat) : Int) ((iR one seen c : Nat) : Int) (nodeAt one i)) :=
  ⟨xa2, xw2, xp2, rfl, fF hv' (by omega) fun b hb => kZ' b (by have := la2 hb; omega), fF iwZ (by omega) fun b hb => kZ' b (by have := lw2 hb; omega), fF ipZ (by omega) fun b hb => kZ' b (by have := lp2 hb; omega), fun b hb => by
   have h1 := (hP b hb).1
   rcases hb with hb | hb | hb
   ·have := la2 hb; omega
   ·have := lw2 hb; omega
   ·have := lp2 hb; omega⟩
 refine aP ?_
 simp only [↓aH,aJ,rE,↓reduceIte, rA, r20, T3.t16, aA, aB, kI hB.g, pS (n := 6) hx' rfl]
 refine iO (aC7 (by simp only [↓sU,sD,rE,↓reduceIte,rA]; try rfl)) ?_
 intro W wS wn wb
 try simp only [↓aH,aJ,rE,↓reduceIte, rA]
 have hW := hB.sm wS
 have hnW := hnb.move (P' := fun c => X.nx ≤ c ∧ c < Z'.nx) wS.1 fun c hc hp => ⟨wS.2 c hc, hp⟩
 obtain ⟨V, eA, nV, bV, kV⟩ := aHO (n := nn) (bytes := 96) hW.b (by rw [Ah, hW.nod.1, hW.hn]; show 6 + _ = _; omega) hW.osz wb rfl (by unfold room; omega) (by unfold room; omega)
 refine fX (fun call => by simp only [↓sU,sD,rE,↓reduceIte,rA, fU]; exact eA) ?_
 simp only [↓sU,sD,rE,↓reduceIte,rA, T3.t16, aA, aB]
 have gV : V.h.get gb = some (.cells [.int .i64 one.players, .sl nb 0 nn nn o, iv] false 0) := (kV gb hW.lg.2 hW.dgb).trans hW.g
 refine fX (v := .undef) (S1 := ⟨V.h.set gb (some (.cells [.int .i64 one.players, .sl W.nx 0 (nn + 1) (nn + 1) true, iv] false 0)), V.nx⟩) (fun call => by simp only [↓sU,sD,rE,↓reduceIte,rA, dW, aE1]; exact stc (cs := [.int .i64 one.players, .sl nb 0 nn nn o, iv]) (p := 1) gV (by simp)) ?_
 simp only [↓sU,sD,rE,↓reduceIte,rA]
 have hV := hW.push (Af _) (by omega) (hnW.move (P' := fun c => S5.nx ≤ c ∧ c ≠ gb ∧ c < W.nx ∧ aQ xa ≠ some c ∧ aQ xw ≠ some c ∧ aQ iv ≠ some c) (by omega) fun b hb hp => ⟨kV b hb (by have := hB0.lb.2; omega), by have := hB0.same.1; omega, by have := hB0.lg.2; omega, hb, fun e => by have := (hB0.gxa.blk e).2.1; omega, fun e => by have := (hB0.gxw.blk e).2.1; omega, fun e => by have := (hB0.giv.blk e).2.1; omega⟩) bV kV
 rw [Bf, ← aHD hlt] at hV
 refine aP ?_
 simp only [↓sU,sD,rE,↓reduceIte,rA, r19, w1]
 refine ⟨k - 1, by omega, rfl, i + 1, W.nx, nn + 1, 6, true, xa, xw, iv, _, ics, by omega, hV, T3.of fun j hj => ?_, by refine ⟨?_,?_⟩<;>simp only [↓sU,sD,rE,↓reduceIte,rA,r18]⟩
 repeat rw [bL, if_neg (by omega)]
section
variable {S5 X Z : St} {gb nb n sz : Nat} {o : Bool} {ps : Int} {xa xw iv : AV} {cs ics : List AV} {A W : List Int} {L : List cM} {I : List iC}
theorem TwB.re (h : TwB S5 X gb nb n o sz ps xa xw iv cs ics A W L I) (hn : X.nx ≤ Z.nx) (hk : ∀ c, c < X.nx → S5.nx ≤ c → Z.h.get c = X.h.get c) : TwB ⟨Z.h, S5.nx⟩ Z gb nb n o sz ps xa xw iv cs ics A W L I where
 same := ⟨Al h.same.1 hn, fun _ _ => rfl⟩
 lg := ⟨h.lg.1, Ae h.lg.2 hn⟩
 lb := ⟨h.lb.1, Ae h.lb.2 hn⟩
 g := (hk _ h.lg.2 h.lg.1).trans h.g
 b := (hk _ h.lb.2 h.lb.1).trans h.b
 hn := h.hn
 osz := h.osz
 nod := h.nod.move hn fun c hc hP => ⟨hk c hc hP.1, hP⟩
 gxa := h.gxa.move hn fun c hc => hk c (h.gxa.blk hc).2.1 (h.gxa.blk hc).1
 gxw := h.gxw.move hn fun c hc => hk c (h.gxw.blk hc).2.1 (h.gxw.blk hc).1
 giv := h.giv.move hn fun c hc => hk c (h.giv.blk hc).2.1 (h.giv.blk hc).1
 inf := h.inf
 dgb := h.dgb
 da := h.da
 dw := h.dw
 di := h.di
 daw := h.daw
 dwi := h.dwi
end
theorem aFG {n c : Nat} : jV n (c + 1) = jV n c ++ [((1 + c * n : Nat) : Int)] := by
 unfold jV
 rw [List.range_succ, Co]
 rfl
noncomputable def aMf : AC := (.seq (.reg [mt 73 17,
oq 74 (bi .eql (.t 73) (ci 0)),
mt 75 74,
og 76 75 false 0 (.mv (.t 4)),
oq 77 (.pick (.t 75) (.c (.bool true)) (.t 76))])
(.cond (.t 77) (.reg [oq 78 (.faddr 2 (.t 16)),
oq 79 (ld 78),
oq 80 (.faddr 2 (.t 13)),
oq 81 (ld 80),
⟨(some 82),(.x (.app 48 2 16 (.t 79) (.t 81))),none,0⟩,
oq 83 (.faddr 2 (.t 16)),
⟨none,(.x (.st 1 (.t 83) (.t 82))),none,0⟩]) .skip))
noncomputable def aMS : AC := (.block 0 (.loop (.seq (.seq (.reg [mt 41 17,
mt 42 3,
oq 43 (bi .lss (.t 41) (.t 42))])
(.cond (.t 43) .skip (.exit 0)))
(.seq (.block 1 (.seq (.reg [mt 46 17,
mt 47 14,
oq 48 (bi .mul (.t 46) (.t 47)),
oq 49 (bi .add (ci 1) (.t 48)),
mt 18 49])
(.seq aJb
(.seq aMf
(.seq (.reg [oq 19 (.mv (ci 0))])
aLM)))))
(.reg [mt 44 17,
oq 45 (bi .add (.t 44) (ci 1)),
mt 17 45])))))
def TwI (S5 : St) (rb B gb cp : Nat) (one : bF) (seen : Bool) (k : Nat) (A : bT) (X : St) : Prop := A.inr = false ∧ ∃ (c nb nn sz : Nat) (o : Bool) (xa xw iv : AV) (cs ics : List AV), c + k = cp ∧ TwB S5 X gb nb nn o sz one.players xa xw iv cs ics (jV one.nodes.length c) (List.replicate c 1) (iY one seen c) (iN one seen c) ∧ TwT A.F rb B gb one.nodes.length one.infos.length cp seen c
theorem aLK {S5 X : St} {F : Fr} {rb B gb nb nn sz cp c : Nat} {o : Bool} {one : bF} {seen : Bool} {xa xw iv nv0 iv0 : AV} {cs ics : List AV} {A W : List Int} {L : List cM} (hone : rH one) (hc : c < 3) (hi : aM 2 dB S5 iv0 one.infos) (gB : S5.h.get B = some (.cells [.int .i64 one.players, nv0, iv0] false 0)) (lB : B < S5.nx) (hB : TwB S5 X gb nb nn o sz one.players xa xw iv cs ics A W L (iN one seen c)) (hT : TwT F rb B gb one.nodes.length one.infos.length cp seen c) (p18 : aC 18 F = .int .i64 ((1 + c * one.nodes.length : Nat) : Int)) :
  kH fns aMf ⟨F, false⟩ X fun o' A' Z => o' = .normal ∧ A'.inr = false ∧ (∃ (iv' : AV) (ics' : List AV), TwB S5 Z gb nb nn o sz one.players xa xw iv' cs ics' A W L (iN one seen (c + 1))) ∧ TwT A'.F rb B gb one.nodes.length one.infos.length cp seen c ∧ aC 18 A'.F = .int .i64 ((1 + c * one.nodes.length : Nat) : Int) := by
 have hm60 : one.infos.length ≤ 60 := by have := hone.ord.le; rw [Av] at this; have := hone.n2; omega
 have hcm : c * one.infos.length ≤ 2 * 60 := Dl (by omega) hm60
 have t4 := hT.t4
 unfold aMf
 have nX := hB.same.1
 have gBX := (hB.same.2 B lB).trans gB
 have hlen : (iN one seen c).length ≤ 300 := by
  cases hs : seen with
  | true => rw [jK rfl]; omega
  | false =>
   cases c with
   | zero => show 0 ≤ 300; omega
   | succ c => rw [pE rfl (by omega)]; omega
 by_cases hcond : c = 0 ∨ seen = true
 rotate_left
 ·have hc0 : c ≠ 0 := fun e => hcond (.inl e)
  have hs : seen = false := by cases seen with | true => exact absurd (.inr rfl) hcond | false => rfl
  have e1 : iN one seen (c + 1) = iN one seen c := by
   show (if _ then _ else _) = _
   rw [if_neg hcond]
  rw [e1]
  rw [hs] at t4
  refine cF ?_
  simp only [↓sU,sD,rE,↓reduceIte,rA, hT.t17, t4, Aa (show ¬ (c : Int) = 0 by omega)]
  refine aT (by simp only [↓sU,sD,rE,↓reduceIte,rA]; try rfl) (aN ?_)
  try simp only [↓sU,sD,rE,↓reduceIte,rA]
  refine ⟨⟨iv, ics, hB⟩, hT.of fun j hj => ?_, by simp only [↓sU,sD,rE,↓reduceIte,rA, p18]⟩
  repeat rw [bL, if_neg (by omega)]
 have e1 : iN one seen (c + 1) = iN one seen c ++ one.infos := by
  show (if _ then _ else _) = _
  rw [if_pos hcond]
 rw [e1]
 refine aD (bN (Q := fun o' A' Z => o' = .normal ∧ A'.inr = false ∧ Z = X ∧ aC 77 A'.F = .bool true ∧ TwT A'.F rb B gb one.nodes.length one.infos.length cp seen c ∧ aC 18 A'.F = .int .i64 ((1 + c * one.nodes.length : Nat) : Int)) (aP ?_) ?_)
 ·by_cases hc0 : c = 0
  ·simp only [↓sU,sD,rE,↓reduceIte,rA, hT.t17, Ad (show (c : Int) = 0 by omega)]
   refine ⟨hT.of fun j hj => ?_, p18⟩
   repeat rw [bL, if_neg (by omega)]
  ·have hs : seen = true := hcond.resolve_left hc0
   rw [hs] at t4
   simp only [↓sU,sD,rE,↓reduceIte,rA, hT.t17, t4, Aa (show ¬ (c : Int) = 0 by omega)]
   refine ⟨hT.of fun j hj => ?_, p18⟩
   repeat rw [bL, if_neg (by omega)]
 clear p18 hT t4
 rintro o' ⟨F, inr⟩ _ ⟨rfl, q0, rfl, p77, hT, p18⟩
 simp only at q0 p77 hT p18
 subst q0
 refine aY (by simp only [↓sU,sD,rE,↓reduceIte,rA, p77]) ?_
 obtain ⟨iv', V, ics', eA, gV, iV, nV, kV, bV⟩ := aHL hB.giv hB.inf hB.same (aM.same (E := dB) cQ hi hB.same) (by omega)
 have gg := hB.g
 have gVb : V.h.get gb = some (.cells [.int .i64 one.players, .sl nb 0 nn nn o, iv] false 0) := (kV gb hB.lg.2 hB.di.1).trans gg
 refine aP ?_
 simp only [↓sU,sD,rE,↓reduceIte,rA, hT.t13, hT.t16, aA, aB, oC gBX, oC gg]
 refine fX (fun call => by simp only [↓sU,sD,rE,↓reduceIte,rA, fU]; exact eA) ?_
 simp only [↓sU,sD,rE,↓reduceIte,rA, hT.t16, aA, aB]
 refine fX (v := .undef) (S1 := ⟨V.h.set gb (some (.cells [.int .i64 one.players, .sl nb 0 nn nn o, iv'] false 0)), V.nx⟩) (fun call => by simp only [↓sU,sD,rE,↓reduceIte,rA, dW, gV.cells]; exact stc (cs := [.int .i64 one.players, .sl nb 0 nn nn o, iv]) (p := 2) gVb (by simp)) ?_
 simp only [↓sU,sD,rE,↓reduceIte,rA]
 refine ⟨⟨iv', ics', hB.info nV gV iV kV bV⟩, hT.of fun j hj => ?_, by simp only [↓sU,sD,rE,↓reduceIte,rA, p18]⟩
 repeat rw [bL, if_neg (by omega)]
theorem aLf {S5 X : St} {F : Fr} {rb B gb cp : Nat} {one : bF} {seen : Bool} {nv0 iv0 : AV} (H : Has fns) (hone : rH one) (hc : cp ≤ 3) (hn : aM 6 cL S5 nv0 one.nodes) (hi : aM 2 dB S5 iv0 one.infos) (gB : S5.h.get B = some (.cells [.int .i64 one.players, nv0, iv0] false 0)) (lB : B < S5.nx) (h0 : TwI S5 rb B gb cp one seen cp ⟨F, false⟩ X) :
  kH fns aMS ⟨F, false⟩ X fun o A Z => o = .normal ∧ TwI S5 rb B gb cp one seen 0 A Z := by
 unfold aMS
 have hn60 := hone.n2
 refine aU (cI (TwI S5 rb B gb cp one seen) ?_ cp _ _ h0)
 clear h0
 rintro k ⟨F, inr⟩ X ⟨q0, c, nb, nn, sz, o, xa, xw, iv, cs, ics, hck, hB, hT⟩
 simp only at q0 hT
 subst q0
 refine jH ?_
 simp only [↓sU,sD,rE,↓reduceIte,rA, hT.t17, hT.t3]
 by_cases hlt : c < cp
 rotate_left
 ·refine aT (by simp only [↓sU,sD,rE,↓reduceIte,rA, Aa (show ¬ (c : Int) < ((cp : Nat) : Int) by omega)]) (cC ?_)
  simp only [↓sU,sD,rE,↓reduceIte,rA]
  obtain rfl : k = 0 := by omega
  refine ⟨rfl, c, nb, nn, sz, o, xa, xw, iv, cs, ics, hck, hB, hT.of fun j hj => ?_⟩
  repeat rw [bL, if_neg (by omega)]
 refine aY (by simp only [↓sU,sD,rE,↓reduceIte,rA, Ad (show (c : Int) < ((cp : Nat) : Int) by omega)]) (aN ?_)
 try simp only [↓sU,sD,rE,↓reduceIte,rA]
 have hcn : c * one.nodes.length ≤ 2 * 60 := Dl (by omega) hn60
 have w1 : IntKind.i64.wrap ((c : Int) + 1) = ((c + 1 : Nat) : Int) := by rw [wrap_i64 (by omega) (by omega)]; omega
 have w2 : IntKind.i64.wrap ((c : Int) * (one.nodes.length : Int)) = ((c * one.nodes.length : Nat) : Int) := by rw [← Eg]; exact wrap_i64 (by omega) (by omega)
 have w3 : IntKind.i64.wrap (1 + ((c * one.nodes.length : Nat) : Int)) = ((1 + c * one.nodes.length : Nat) : Int) := by rw [wrap_i64 (by omega) (by omega)]; omega
 have nn0 : 0 < nn := by have := hB.hn; omega
 refine aD (aU (aD (aP ?_)))
 simp only [↓sU,sD,rE,↓reduceIte,rA, hT.t17, hT.t14, w2, w3]
 refine aD (aI6 (S0 := S5) (gb := gb) (nb := nb) (by simp only [↓sU,sD,rE,↓reduceIte,rA, hT.t16]) (by simp only [↓sU,sD,rE,↓reduceIte,rA]; try rfl) hB.g hB.b nn0 hB.gxa hB.gxw hB.same hB.lg.2 hB.lb.2 hB.dgb hB.da.1 hB.dw.1 hB.da.2 hB.dw.2 (fun b hb => (hB.daw b hb).1) (by rw [tJ]; omega) (by rw [Ap]; omega) ?_)
 intro F1 Z xa' xw' hk nZ bZ gaZ gwZ baZ bwZ kZ
 have hB1 := hB.root nZ bZ gaZ gwZ baZ bwZ kZ
 rw [← aFG, ← List.replicate_succ'] at hB1
 have T1 : TwT F1 rb B gb one.nodes.length one.infos.length cp seen c := hT.of fun j hj => by
  rw [hk j (by omega)]
  repeat rw [bL, if_neg (by omega)]
 have q18 : aC 18 F1 = .int .i64 ((1 + c * one.nodes.length : Nat) : Int) := (hk 18 (by omega)).trans (by simp only [↓sU,sD,rE,↓reduceIte,rA])
 clear hk hT hB bZ gaZ gwZ baZ bwZ kZ
 refine aD (bN (aLK hone (by omega) hi gB lB hB1 T1 q18) ?_)
 rintro o' ⟨F2, inr⟩ Z2 ⟨rfl, q0, ⟨iv2, ics2, hB2⟩, T2, r18⟩
 simp only at q0 T2 r18
 subst q0
 try simp only [↓sU,sD,rE,↓reduceIte,rA]
 refine cF ?_
 simp only [↓sU,sD,rE,↓reduceIte,rA]
 refine bN (aLV (cp := cp) (rb := rb) H hone (by omega) hn hi gB lB ⟨rfl, 0, nb, nn, sz, o, xa', xw', iv2, cs, ics2, by omega, by rw [List.take_zero, Bk]; exact hB2, T2.of fun j hj => ?_, by simp only [↓sU,sD,rE,↓reduceIte,rA, r18], by simp only [↓sU,sD,rE,↓reduceIte,rA]; try rfl⟩) ?_
 ·repeat rw [bL, if_neg (by omega)]
 rintro o' ⟨F3, inr⟩ Z3 ⟨rfl, q0, i, nb3, nn3, sz3, o3, xa3, xw3, iv3, cs3, ics3, hi3, hB3, T3, s18, s19⟩
 simp only at q0 T3 s18 s19
 subst q0
 obtain rfl : i = one.nodes.length := by omega
 rw [Bn (by rw [tF]; exact Af _)] at hB3
 try simp only [↓sU,sD,rE,↓reduceIte,rA]
 refine aP ?_
 simp only [↓sU,sD,rE,↓reduceIte,rA, T3.t17, w1]
 refine ⟨k - 1, by omega, rfl, c + 1, nb3, nn3, sz3, o3, xa3, xw3, iv3, cs3, ics3, by omega, hB3, ⟨?_, ?_, ?_, ?_, ?_, ?_, ?_, ?_⟩⟩
 ·simp only [↓sU,sD,rE,↓reduceIte,rA, T3.t3]
 ·simp only [↓sU,sD,rE,↓reduceIte,rA, T3.t4]
 ·simp only [↓sU,sD,rE,↓reduceIte,rA, T3.t12]
 ·simp only [↓sU,sD,rE,↓reduceIte,rA, T3.t13]
 ·simp only [↓sU,sD,rE,↓reduceIte,rA, T3.t14]
 ·simp only [↓sU,sD,rE,↓reduceIte,rA, T3.t15]
 ·simp only [↓sU,sD,rE,↓reduceIte,rA, T3.t16]
 ·simp only [↓sU,sD,rE,↓reduceIte,rA]
theorem aNS {F : Fr} {h : Ev.T AB} {ps : Int} {b : Nat} (h37 : aC 37 F = .int .i64 ps) (h39 : aC 39 F = .sl b 0 1 1 false) : gR (.build [.int .i64 0, .nilsl, .nilsl] [(0, 1, .t 37), (1, 1, .t 39)]) F h = some (.agg [.int .i64 ps, .sl b 0 1 1 false, .nilsl]) := by
 show (bE (eF _ (dJ F [(0, 1, .t 37), (1, 1, .t 39)])) fun cs => some (AV.agg cs)) = _
 simp only [dJ, show (cK.t 37).val F = .int .i64 ps from h37, show (cK.t 39).val F = .sl b 0 1 1 false from h39, eF, cT, aE1, aE]
 rfl
theorem aEO {S : St} {lv : AV} {dl : List Int} {ps most : Int} {cp : Nat} {seen zero : Bool} (H : Has fns) (hl : bO .i64 S lv dl) (hbd : dl.length ≤ 140737488355328) (hps : 1 ≤ ps ∧ ps ≤ 4) (hm : 1 ≤ most ∧ most ≤ 61) (hc : 1 ≤ cp ∧ cp ≤ 3) :
  iM fns (.fn 67 [] []) [lv, .int .i64 ps, .int .i64 most, .int .i64 (cp : Int), .bool seen, .bool zero] S fun r Z => Same S Z ∧ ∃ (one : bF) (nv iv : AV), rH one ∧ one.players = ps ∧ ((one.nodes.length : Nat) : Int) ≤ mx 1 ((most - 1) / (cp : Int)) ∧ r = .agg [.int .i64 ps, nv, iv] ∧ aM 6 cL Z nv (dG one cp seen).nodes ∧ aM 2 dB Z iv (dG one cp seen).infos ∧ ∀ X' : St, Z.nx ≤ X'.nx → (∀ c, c < Z.nx → S.nx < c → X'.h.get c = Z.h.get c) → aM 6 cL X' nv (dG one cp seen).nodes ∧ aM 2 dB X' iv (dG one cp seen).infos := by
 refine cV H.f67 (by simp) ?_
 simp only [↓sU,sD,rE,↓reduceIte,rA]
 refine cF ?_
 refine dC ?_
 intro S1 s1 n1 g1
 simp only [↓aH,aJ,rE,↓reduceIte, rA]
 have w1 : IntKind.i64.wrap (most - 1) = most - 1 := wrap_i64 (by omega) (by omega)
 have hq : lE .quo (.p .int) (.int .i64 (most - 1)) (.int .i64 (cp : Int)) = some (.int .i64 ((most - 1) / (cp : Int))) := pU _ (by omega) (by omega) (by omega)
 have hq1 : (most - 1) / (cp : Int) ≤ 60 := by
  have h1 : (most - 1) / (cp : Int) ≤ most - 1 := Int.ediv_le_self _ (by omega)
  omega
 have hmx : 1 ≤ mx 1 ((most - 1) / (cp : Int)) ∧ mx 1 ((most - 1) / (cp : Int)) ≤ 60 := by unfold mx; split <;> omega
 refine cF ?_
 simp only [↓aH,aJ,rE,↓reduceIte, rA, w1, hq, aBE, jL, nK, aDG]
 refine bJ ?_
 simp only [↓aH,aJ,rE,↓reduceIte, rA]
 refine aW (aDK H (hl.same s1) hbd hps ⟨hmx.1, by omega⟩) ?_
 rintro _ S2 ⟨s2, one, nv0, iv0, rfl, rfl, hform, hlen, hok, ⟨hsub, hord⟩, hn2, hi2, _⟩
 have hone : rH one := ⟨hps, by have := (jA hform).n1; omega, by omega, hform, hok, hsub, hord⟩
 try simp only [↓aH,aJ,rE,↓reduceIte, rA]
 refine dC ?_
 intro S3 s3 n3 g3
 try simp only [↓aH,aJ,rE,↓reduceIte, rA]
 refine dU (b := S2.nx) (by simp only [↓aH,aJ,rE,↓reduceIte, rA]) (by simp only [↓aH,aJ,rE,↓reduceIte, rA]; exact bK _) g3 rfl rfl ?_
 intro S4 v4 k4 g4
 try simp only [↓aH,aJ,rE,↓reduceIte, rA]
 have s4 : Same S2 S4 := v4.same s3 (Af _)
 have n2 := s2.1
 have m4 := s4.1
 have lB : S2.nx < S4.nx := by omega
 have gr4 : S4.h.get S.nx = some (.cells [.int .i64 0, .nilsl, .nilsl] false 0) := (s4.2 _ (by omega)).trans ((s2.2 _ (by omega)).trans g1)
 have sS4 : Same S S4 := (s1.trans s2).trans s4
 have hn4 := aM.same (E := cL) cB hn2 s4
 have hi4 := aM.same (E := dB) cQ hi2 s4
 have lnn := aM.len hn4
 have lni := aM.len hi4
 clear v4 g3 s3 k4 n3
 have gB : S4.h.get S2.nx = some (.cells [.int .i64 one.players, nv0, iv0] false 0) := g4
 refine aD (gE ?_)
 simp only [↓sU,sD,rE,↓reduceIte,rA, aA, aB, kI gB, oC gB, lnn, lni]
 refine ⟨fun _ => trivial, aM.self hn4, fun _ => trivial, aM.self hi4, ?_⟩
 refine cF ?_
 obtain ⟨S5, hS5⟩ : ∃ Y : St, Y = ⟨S4.h, S4.nx + 8⟩ := ⟨_, rfl⟩
 have e5 : (⟨S4.h, S4.nx + 8⟩ : St) = S5 := hS5.symm
 simp only [↓aH,aJ,rE,↓reduceIte, rA, aLh]
 refine iO (aC7 (by simp only [↓aH,aJ,rE,↓reduceIte, rA]; try rfl)) ?_
 simp only [e5]
 have s5 : Same S4 S5 := by rw [hS5]; exact Same.nx _ _
 have n5 : S5.nx = S4.nx + 8 := by rw [hS5]
 clear hS5 e5
 intro S6 s6 n6 g6
 simp only [← n5] at g6 n6 s6 ⊢
 try simp only [↓aH,aJ,rE,↓reduceIte, rA]
 have hbl : ∀ (F : Fr) (h : Ev.T AB), aC 37 F = .int .i64 one.players → aC 39 F = .sl S5.nx 0 1 1 false → gR (.build [.int .i64 0, .nilsl, .nilsl] [(0, 1, .t 37), (1, 1, .t 39)]) F h = some (.agg [.int .i64 one.players, .sl S5.nx 0 1 1 false, .nilsl]) := fun F h a b => aNS a b
 try simp only [↓aH,aJ,rE,↓reduceIte, rA, hbl]
 refine dC ?_
 intro S7 s7 n7 g7
 try simp only [↓aH,aJ,rE,↓reduceIte, rA]
 refine dU (b := S6.nx) (by simp only [↓aH,aJ,rE,↓reduceIte, rA]) (by simp only [↓aH,aJ,rE,↓reduceIte, rA]; exact bK _) g7 rfl rfl ?_
 intro S8 v8 k8 g8
 try simp only [↓aH,aJ,rE,↓reduceIte, rA]
 have s8 : Same S6 S8 := v8.same s7 (Af _)
 have m8 := s8.1
 have s58 := s6.trans s8
 have hn5 := aM.same (E := cL) cB hn4 s5
 have hi5 := aM.same (E := dB) cQ hi4 s5
 have gB5 := (s5.2 _ lB).trans gB
 have gr5 := (s5.2 S.nx (by have := s1.1; omega)).trans gr4
 have sS5 := sS4.trans s5
 have hB0 : TwB S5 S8 S6.nx S5.nx 1 false 0 one.players .nilsl .nilsl .nilsl [] [] (jV one.nodes.length 0) (List.replicate 0 1) (iY one seen 0) (iN one seen 0) :=
  {
   same := s58
   lg := ⟨by omega, by omega⟩
   lb := ⟨Af _, by omega⟩
   g := g8
   b := (s8.2 _ (by omega)).trans g6
   hn := rfl
   osz := fun h => by cases h
   nod := ⟨rfl, fun j a h => by cases h⟩
   gxa := .inl ⟨rfl, rfl, rfl⟩
   gxw := .inl ⟨rfl, rfl, rfl⟩
   giv := .inl ⟨rfl, rfl, rfl⟩
   inf := ⟨rfl, fun j a h => by cases h⟩
   dgb := by omega
   da := ⟨(fun h => by cases h), (fun h => by cases h)⟩
   dw := ⟨(fun h => by cases h), (fun h => by cases h)⟩
   di := ⟨(fun h => by cases h), (fun h => by cases h)⟩
   daw := fun c h => by cases h
   dwi := fun c h => by cases h }
 refine jH ?_
 simp only [↓sU,sD,rE,↓reduceIte,rA]
 refine bN (aLf (rb := S.nx) (B := S2.nx) (gb := S6.nx) (cp := cp) (seen := seen) H hone (by omega) hn5 hi5 gB5 (by omega) ⟨rfl, 0, S5.nx, 1, 0, false, .nilsl, .nilsl, .nilsl, [], [], by omega, hB0, ⟨?_, ?_, ?_, ?_, ?_, ?_, ?_, ?_⟩⟩) ?_
 ·simp only [↓sU,sD,rE,↓reduceIte,rA]
 ·simp only [↓sU,sD,rE,↓reduceIte,rA]
 ·simp only [↓sU,sD,rE,↓reduceIte,rA]
 ·simp only [↓sU,sD,rE,↓reduceIte,rA]
 ·simp only [↓sU,sD,rE,↓reduceIte,rA]
 ·simp only [↓sU,sD,rE,↓reduceIte,rA]
 ·simp only [↓sU,sD,rE,↓reduceIte,rA]
 ·simp only [↓sU,sD,rE,↓reduceIte,rA]; try rfl
 clear hB0 g6 g7 g8 s7 v8 k8 s58 s8
 rintro o' ⟨F, inr⟩ X ⟨rfl, q0, c, nb, nn, sz, o, xa, xw, iv, cs, ics, hck, hB, hT⟩
 simp only at q0 hT
 subst q0
 obtain rfl : c = cp := by omega
 try simp only [↓sU,sD,rE,↓reduceIte,rA]
 have nX := hB.same.1
 have grX := (hB.same.2 S.nx (by have := s1.1; omega)).trans gr5
 have lag := jF hB.g
 refine cF ?_
 simp only [↓sU,sD,rE,↓reduceIte,rA, hT.t16, hT.t12, lag]
 refine dU (b := S.nx) (by simp only [↓sU,sD,rE,↓reduceIte,rA, hT.t12]) (by simp only [↓sU,sD,rE,↓reduceIte,rA]; exact bK _) grX rfl rfl ?_
 intro Z z1 z2 z3
 have lagZ := jF z3
 simp only [↓sU,sD,rE,↓reduceIte,rA]
 refine bD ?_
 simp only [↓sU,sD,rE,↓reduceIte,rA, eZ, hT.t12, lagZ]
 have hZ := hB.re (Z := Z) z1.1 fun b hb h5 => z1.2 b hb (by have := s1.1; omega)
 refine ⟨z1.same (sS5.trans hB.same) (Af _), one, _, _, hone, rfl, hlen, rfl, hZ.nodes, hZ.inf.is hZ.giv, fun X' hn' hk' => ?_⟩
 have hX := hZ.re (Z := X') hn' fun b hb h5 => hk' b hb (by have := s1.1; have : S5.nx ≤ b := h5; omega)
 exact ⟨hX.nodes, hX.inf.is hX.giv⟩
theorem aM.head {k : Nat} {α : Type} {E : St → List AV → α → Prop} {S : St} {v : AV} {l : List α} (h : aM k E S v l) {n : Nat} (hn : n < l.length) : ∃ v', (∀ (F : Fr) (x : cK), eX (x.val F) = some n → qI (.slice k) v none (some x) none F = some v') ∧ aM k E S v' (l.take n) := by
 rcases h with ⟨h0, _⟩ | ⟨b, off, cap, o, cs, rfl, hc, hb, hcs, hel⟩
 ·subst h0; cases hn
 ·have e1 : Nat.ble cap cap = true := Ak (Af _)
  have e2 : Nat.ble n cap = true := Ak (by omega)
  have e3 : Nat.ble 0 n = true := Ak (Ci _)
  have e4 : Nat.beq cap 0 = false := by rw [Cb]; intro h; rw [Bd] at h; omega
  refine ⟨.sl b off n cap o, fun F x hx => ?_, .inr ⟨b, off, cap, o, cs, by rw [Bs, Nat.min_eq_left (by omega)], by rw [Bs]; omega, hb, hcs, fun i a hi => ?_⟩⟩
  ·simp only [qI, aES, kQ, iW, aE, hx, e1, e2, e3, aF, e4, aL, Nat.sub_zero, Cx, Bj, Option.isNone_none]
   cases o <;> rfl
  ·rw [List.getElem?_take] at hi
   split at hi
   ·exact hel i a hi
   ·cases hi
def aLU (r : AV) (Z : St) : Prop := ∃ (g : bF) (nv iv v : AV) (L : List (List Int)), r = .tup [.agg [.int .i64 g.players, nv, iv], v, .bool true] ∧ dF g = 0 ∧ aM 6 cL Z nv g.nodes ∧ aM 2 dB Z iv g.infos ∧ aM 1 SlE Z v L ∧ 1 ≤ L.length ∧ L.length ≤ 5 ∧ (∀ m ∈ L, fR g m ∧ aEG g m) ∧ g.nodes.length ≤ 30 ∧ ∀ x ∈ g.nodes, gT g.players g.infos x
theorem aFC {S : St} {lv : AV} {dl : List Int} {p c : Int} {seen : Bool} (H : Has fns) (hl : bO .i64 S lv dl) (hbd : dl.length ≤ 140737488355328) :
  iM fns (.fn 15 [] []) [lv, .int .i64 p, .int .i64 c, .bool seen] S fun r Z => Same S Z ∧ aLU r Z := by
 refine cV H.f15 (by simp) ?_
 simp only [↓sU,sD,rE,↓reduceIte,rA]
 refine cF ?_
 refine dC ?_
 intro S1 s1 n1 g1
 simp only [↓aH,aJ,rE,↓reduceIte, rA]
 refine cF ?_
 simp only [↓aH,aJ,rE,↓reduceIte, rA]
 refine bJ ?_
 simp only [↓aH,aJ,rE,↓reduceIte, rA]
 refine aW (pM H (n := 3) (by decide) (by decide)) ?_
 rintro _ S2 ⟨s2, y, rfl, y1, y2⟩
 have w1 : IntKind.i64.wrap (1 + y) = 1 + y := wrap_i64 (by omega) (by omega)
 simp only [↓aH,aJ,rE,↓reduceIte, rA, w1]
 refine bJ ?_
 simp only [↓aH,aJ,rE,↓reduceIte, rA]
 refine aW (pM H (n := 2) (by decide) (by decide)) ?_
 rintro _ S3 ⟨s3, z, rfl, z1, z2⟩
 have w2 : IntKind.i64.wrap (2 + z) = ((2 + z.toNat : Nat) : Int) := by rw [wrap_i64 (by omega) (by omega)]; omega
 simp only [↓aH,aJ,rE,↓reduceIte, rA, w2]
 have hcp : 2 ≤ 2 + z.toNat ∧ 2 + z.toNat ≤ 3 := by omega
 have s13 : Same S S3 := (s1.trans s2).trans s3
 refine bJ ?_
 simp only [↓aH,aJ,rE,↓reduceIte, rA]
 refine aW (aEO (cp := 2 + z.toNat) (seen := seen) H (hl.same s13) hbd (by omega) (by omega) (by omega)) ?_
 rintro _ S4 ⟨s4, one, nv, iv, hone, hps, hol, rfl, hn, hi, hfr⟩
 obtain ⟨g, hg⟩ : ∃ g : bF, g = dG one (2 + z.toNat) seen := ⟨_, rfl⟩
 have hform : dF g = 0 := by rw [hg]; exact (yN hone (by omega)).1
 have hokn : ∀ x ∈ g.nodes, gT g.players g.infos x := by rw [hg]; exact (yN hone (by omega)).2
 have hg30 : g.nodes.length ≤ 30 := by
  rw [hg, mM]
  obtain hz | hz : z.toNat = 0 ∨ z.toNat = 1 := by omega
  ·rw [hz] at hol ⊢
   have e : mx 1 ((30 - 1) / ((2 + 0 : Nat) : Int)) = 14 := by decide
   have : one.nodes.length ≤ 14 := by omega
   omega
  ·rw [hz] at hol ⊢
   have e : mx 1 ((30 - 1) / ((2 + 1 : Nat) : Int)) = 9 := by decide
   have : one.nodes.length ≤ 9 := by omega
   omega
 have hgp : g.players = 1 + y := by rw [hg, ← hps]; rfl
 rw [← hg] at hn hi hfr
 rw [← hgp]
 have G := jA hform
 try simp only [↓aH,aJ,rE,↓reduceIte, rA]
 refine dC ?_
 intro S5 s5 n5 g5
 try simp only [↓aH,aJ,rE,↓reduceIte, rA]
 refine dU (b := S4.nx) (by simp only [↓aH,aJ,rE,↓reduceIte, rA]) (by simp only [↓aH,aJ,rE,↓reduceIte, rA]; exact bK _) g5 rfl rfl ?_
 intro S6 v6 k6 g6
 try simp only [↓aH,aJ,rE,↓reduceIte, rA]
 have s6 : Same S4 S6 := v6.same s5 (Af _)
 have m4 := s4.1
 have m13 := s13.1
 have m6 := s6.1
 have gr6 : S6.h.get S.nx = some (.cells [.int .i64 0, .nilsl, .nilsl] false 0) := (s6.2 _ (by have := s2.1; have := s3.1; omega)).trans ((s4.2 _ (by have := s2.1; have := s3.1; omega)).trans ((s3.2 _ (by have := s2.1; omega)).trans ((s2.2 _ (by omega)).trans g1)))
 have lr6 : S.nx < S6.nx := by have := s2.1; have := s3.1; omega
 have l6 : S4.nx < S6.nx := by omega
 have sS6 := (s13.trans s4).trans s6
 have hn6 := aM.same (E := cL) cB hn s6
 have hi6 := aM.same (E := dB) cQ hi s6
 clear v6 g5 s5 k6 n5 g1 hn hi
 have lag6 := jF g6
 refine cF ?_
 simp only [↓sU,sD,rE,↓reduceIte,rA, lag6]
 refine bJ ?_
 simp only [↓sU,sD,rE,↓reduceIte,rA]
 refine aW (aFE H hn6 hi6 (by have := G.n2; omega)) ?_
 rintro _ S7 ⟨s7, v, rfl, _, hv⟩
 obtain ⟨T, hT, hTl, hL, hLf⟩ := hv hform
 have hne : 1 ≤ (iH g T g.nodes.length).length := by
  subst hg
  exact aHW hone hcp hT
 have hall := aH9 G hT hTl
 obtain ⟨L, hLe⟩ : ∃ L : List (List Int), L = iH g T g.nodes.length := ⟨_, rfl⟩
 rw [← hLe] at hL hne hall hLf
 clear hLe
 have lvn := aM.len hL
 rw [hform]
 simp only [↓sU,sD,rE,↓reduceIte,rA, vE, vD]
 refine jH ?_
 simp only [↓sU,sD,rE,↓reduceIte,rA, lvn]
 refine aT (by simp only [↓sU,sD,rE,↓reduceIte,rA, Aa (show ¬ ((L.length : Nat) : Int) < 1 by omega)]; try rfl) (aN ?_)
 try simp only [↓sU,sD,rE,↓reduceIte,rA]
 have g7 := (s7.2 _ l6).trans g6
 have lag7 := jF g7
 have gr7 := (s7.2 _ lr6).trans gr6
 have hn7 := aM.same (E := cL) cB hn6 s7
 have hi7 := aM.same (E := dB) cQ hi6 s7
 have sS7 := sS6.trans s7
 refine aD (bN (Q := fun o A Z => o = .normal ∧ Z = S7 ∧ A.inr = false ∧ aC 8 A.F = .ptr S.nx 0 ∧ aC 11 A.F = .ptr S4.nx 0 ∧ ∃ (v' : AV) (L' : List (List Int)), aC 12 A.F = v' ∧ (∀ X' : St, S7.nx ≤ X'.nx → (∀ c, c < S7.nx → S6.nx ≤ c → X'.h.get c = S7.h.get c) → aM 1 SlE X' v' L') ∧ 1 ≤ L'.length ∧ L'.length ≤ 5 ∧ ∀ m ∈ L', fR g m ∧ aEG g m) (aD (aP ?_)) ?_)
 ·simp only [↓sU,sD,rE,↓reduceIte,rA, lvn]
  by_cases h5 : L.length > 5
  ·refine aY (by simp only [↓sU,sD,rE,↓reduceIte,rA, Ad (show ((L.length : Nat) : Int) > 5 by omega)]) ?_
   obtain ⟨v', e1, e2⟩ := aM.head hL (n := 5) h5
   have e3 : ∀ X' : St, S7.nx ≤ X'.nx → (∀ c, c < S7.nx → S6.nx ≤ c → X'.h.get c = S7.h.get c) → aM 1 SlE X' v' (L.take 5) := fun X' a b => by
    obtain ⟨v2, e4, e5⟩ := aM.head (hLf X' a b) (n := 5) h5
    have := (e1 Ev.T.e (.c (.int .i64 5)) rfl).symm.trans (e4 Ev.T.e (.c (.int .i64 5)) rfl)
    cases this
    exact e5
   have hs : ∀ F : Fr, qI (.slice 1) v none (some (.c (.int .i64 5))) none F = some v' := fun F => e1 F _ rfl
   refine aP ?_
   simp only [↓sU,sD,rE,↓reduceIte,rA, aAu, hs]
   refine ⟨v', L.take 5, by trivial, e3, by rw [Bs]; omega, by rw [Bs]; omega, fun m hm => hall m (Dx hm)⟩
  ·refine aT (by simp only [↓sU,sD,rE,↓reduceIte,rA, Aa (show ¬ ((L.length : Nat) : Int) > 5 by omega)]) (aN ?_)
   simp only [↓sU,sD,rE,↓reduceIte,rA]
   refine ⟨v, L, by trivial, hLf, hne, by omega, hall⟩
 rintro o' ⟨F, inr⟩ Zx ⟨rfl, e7, q0, p8, p11, v', L', p12, hL', l1, l5, hall'⟩
 simp only at q0 p8 p11 p12
 subst q0
 rw [e7]
 refine cF ?_
 simp only [↓sU,sD,rE,↓reduceIte,rA, p11, p12, p8, lag7]
 refine dU (b := S.nx) (by simp only [↓sU,sD,rE,↓reduceIte,rA, p8]) (by simp only [↓sU,sD,rE,↓reduceIte,rA]; exact bK _) gr7 rfl rfl ?_
 intro Z z1 z2 z3
 have lagZ := jF z3
 simp only [↓sU,sD,rE,↓reduceIte,rA]
 refine bD ?_
 simp only [↓sU,sD,rE,↓reduceIte,rA, eZ, p8, lagZ]
 have kZ : ∀ b, b < S7.nx → b ≠ S.nx → Z.h.get b = S7.h.get b := fun b hb hne => z1.2 b hb hne
 have nZ := z1.1
 have m7 := s7.1
 obtain ⟨hnZ, hiZ⟩ := hfr Z (by omega) fun b hb hlt => (kZ b (by omega) (by have := s2.1; have := s3.1; omega)).trans ((s7.2 b (by omega)).trans (s6.2 b hb))
 exact ⟨z1.same sS7 (Af _), g, nv, iv, v', L', rfl, hform, hnZ, hiZ, hL' Z nZ fun b hb hlt => kZ b hb (by omega), l1, l5, hall', hg30, hokn⟩
section
variable {S : St} {nv iv av bv : AV} {g : bF} {a b : List Int}
theorem aFn (H : Has fns) (hf : dF g = 0) (hn : aM 6 cL S nv g.nodes) (hi : aM 2 dB S iv g.infos) (ha : bO .i64 S av a) (hb : bO .i64 S bv b) (A : fR g a) (B : fR g b) :
  iM fns (.fn 17 [] []) [.agg [.int .i64 g.players, nv, iv], av, bv] S fun r S' => Same S S' ∧ ∃ v, r = .tup [v, .int .i64 0] ∧ bO .i64 S' v (jG a b) :=
 aW (aDl (P := aF3 g a) (P' := aF3 g b) (oka := lG g a) (okb := lG g b) H (vI (g := g) (m := a)) (vI (g := g) (m := b)) hn hi ha hb (by have := (jA hf).n2; omega) (aGh H hn hi ha) (aGh H hn hi hb)) fun r S' h => by
  obtain ⟨s, v, e, p⟩ := h
  have e0 : tU g a b (lG g a) (lG g b) = 0 := by
   unfold tU
   rw [A.chk hf, if_neg (fun h => h rfl)]
   exact B.e
  rw [e0] at e p
  exact ⟨s, v, e, p.2 rfl⟩
end
end Go.Ev.Gl
