import Derived.Test.YtoojnpjgnnpllaaGl11
open Nat renaming reduceEqDiff → rE, reduceAdd → rA
set_option maxHeartbeats 16000000
set_option linter.unusedSimpArgs false
set_option linter.unusedVariables false
namespace Go.Ev.Gl
variable {fns : T eJ}
theorem aEI {g : bF} {i : Nat} (hi : i < g.infos.length) : g.infos[i]? = some (infoAt g (i : Int)) := by
 unfold infoAt
 rw [Ba, Ac, Ab hi]
 rfl
def aHB (_ : St) (cs : List AV) (x : Int) : Prop := cs = [.int .i64 x]
theorem zD : aB5 aHB := fun h _ => h
theorem toG {S : St} {v : AV} {l : List Int} (h : bO .i64 S v l) : aM 1 aHB S v l := by
 rcases h with h | ⟨b, off, cap, o, cs, rfl, hc, hb, hcs, hel⟩
 ·exact .inl h
 ·refine .inr ⟨b, off, cap, o, cs, rfl, hc, hb, hcs, fun i a hi => ⟨[.int .i64 a], rfl, fun j x hj => ?_, rfl⟩⟩
  cases j with
  | zero => simp at hj; subst hj; rw [Ee, Bj]; exact hel i a hi
  | succ j => simp at hj
theorem ofG {S : St} {v : AV} {l : List Int} (h : aM 1 aHB S v l) : bO .i64 S v l := by
 rcases h with h | ⟨b, off, cap, o, cs, rfl, hc, hb, hcs, hel⟩
 ·exact .inl h
 ·refine .inr ⟨b, off, cap, o, cs, rfl, hc, hb, hcs, fun i a hi => ?_⟩
  obtain ⟨e, _, h2, h3⟩ := hel i a hi
  have h3 : e = [.int .i64 a] := h3
  subst h3
  have := h2 0 _ rfl
  rw [Ee, Bj] at this
  exact this
theorem aM.moveB {k : Nat} {α : Type} {E : St → List AV → α → Prop} {S S' : St} {v : AV} {l : List α} (h : aM k E S v l) (hn : S.nx ≤ S'.nx) (hh : ∀ c, aQ v = some c → S'.h.get c = S.h.get c) (hE : ∀ e a, E S e a → E S' e a) : aM k E S' v l := by
 rcases h with h | ⟨b, off, cap, o, cs, rfl, hc, hb, hcs, hel⟩
 ·exact .inl h
 ·refine .inr ⟨b, off, cap, o, cs, rfl, hc, Ae hb hn, ?_, fun i a hi => ?_⟩
  ·unfold cP
   rw [hh b rfl]
   exact hcs
  ·obtain ⟨e, e1, e2, e3⟩ := hel i a hi
   exact ⟨e, e1, e2, hE e a e3⟩
theorem aNz {k : Nat} {α : Type} {E : St → List AV → α → Prop} {S : St} {v : AV} {l : List α} (hk : 0 < k) (h : aM k E S v l) : ∃ new, jZ v = some l.length ∧ eE v S.h k l.length = some new ∧ ∀ i a, l[i]? = some a → ∃ e : List AV, e.length = k ∧ (∀ (j : Nat) (x : AV), e[j]? = some x → new[i * k + j]? = some x) ∧ E S e a := by
 rcases h with ⟨rfl, h⟩ | ⟨b, off, cap, o, cs, rfl, hc, hb, hcs, hel⟩
 ·rcases h with rfl | rfl <;> exact ⟨[], rfl, rfl, fun i a hi => by simp at hi⟩
 ·rcases Be l.length with h0 | hp
  ·have hl : l = [] := Bo.1 h0
   subst hl
   refine ⟨[], rfl, ?_, fun i a hi => by simp at hi⟩
   show (bE (cP S.h b) fun cs => cut cs off (0 * k)) = _
   rw [hcs, aE, Cx]
   unfold cut
   rw [fO, fZ, if_pos (Ci _)]
   rfl
  ·have hle : off + l.length * k ≤ cs.length := by
    obtain ⟨e, e1, e2, _⟩ := hel (l.length - 1) _ (Ab (by omega))
    have := e2 (k - 1) _ (Ab (by omega))
    have h3 := (Ai.1 this).1
    have h4 : (l.length - 1) * k + k = l.length * k := by
     rw [← Cg]
     congr 1
     omega
    omega
   refine ⟨(cs.drop off).take (l.length * k), rfl, ?_, fun i a hi => ?_⟩
   ·show (bE (cP S.h b) fun cs => cut cs off (l.length * k)) = _
    rw [hcs, aE]
    unfold cut
    rw [fO, fZ, if_pos (by rw [Cq]; omega)]
   ·obtain ⟨e, e1, e2, e3⟩ := hel i a hi
    refine ⟨e, e1, fun j x hj => ?_, e3⟩
    have hlt := (Ai.1 hi).1
    have hj1 := (Ai.1 hj).1
    have h5 : i * k + k ≤ l.length * k := by
     rw [← Cg]
     exact Bu k hlt
    rw [Dw (by omega), Eq]
    have := e2 j x hj
    rw [Ct] at this
    exact this
def Wr (X : St) (c : Nat) : Prop := ∃ cs o sz, X.h.get c = some (.cells cs o sz)
theorem Wr.eq {X X' : St} {c : Nat} (h : Wr X c) (e : X'.h.get c = X.h.get c) : Wr X' c := by
 obtain ⟨cs, o, sz, h⟩ := h
 exact ⟨cs, o, sz, e.trans h⟩
theorem aAn {k bytes b : Nat} {α : Type} {E : St → List AV → α → Prop} {S : St} {v : AV} {l : List α} (hE : aB5 E) (hk : 0 < k) (hb : S.h.get b = some (.cells [] false 0)) (hbl : b < S.nx) (h : aM k E S v l) (h1 : l.length ≤ room) (h2 : l.length * bytes ≤ room) :
  ∃ r S', gF bytes k (.sl b 0 0 0 false) v S = some (r, S') ∧ aM k E S' r l ∧ Same S S' ∧ (∀ c, aQ r = some c → c = b ∨ S.nx ≤ c) ∧ ∀ c, aQ r = some c → Wr S' c := by
 obtain ⟨new, e1, e2, e3⟩ := aNz hk h
 unfold gF
 rw [e1, aE, e2, aE]
 show ∃ r S', jU bytes k b 0 0 0 false l.length new S = some (r, S') ∧ _
 unfold jU
 rcases Be l.length with h0 | hp
 ·have hl : l = [] := Bo.1 h0
  subst hl
  refine ⟨.sl b 0 0 0 false, S, rfl, .inr ⟨b, 0, 0, false, [], rfl, Af _, hbl, by unfold cP; rw [hb]; rfl, fun i a hi => by simp at hi⟩, Same.refl S, fun c hc => ?_, fun c hc => ?_⟩
  ·cases hc
   exact .inl rfl
  ·cases hc
   exact ⟨_, _, _, hb⟩
 ·have e5 : Nat.ble (0 + l.length) 0 = false := by
   rw [Cb]; intro e; have := Ay e; omega
  rw [e5, aL, Ak (by omega), aF, Ak (by rw [Am]; exact h2), aF, hb, aE]
  have e4 : cut ([] : List AV) 0 (0 * k) = some [] := by
   unfold cut
   rw [fO, fZ, Cx, if_pos (Ci _)]
   rfl
  show ∃ r S', (bE (cut ([] : List AV) 0 (0 * k)) fun old => bQ false _ (grown S.h S.nx (0 + l.length) k (tM old new))) = some (r, S') ∧ _
  rw [e4, aE, aL]
  refine ⟨_, _, rfl, .inr ⟨S.nx, 0, l.length, true, new, by rw [Am], Af _, by simp, ?_, fun i a hi => ?_⟩, Same.alloc S _, fun c hc => ?_, fun c hc => ?_⟩
  ·unfold cP
   simp only
   rw [T.get_set, if_pos rfl]
   rfl
  ·obtain ⟨e, a1, a2, a3⟩ := e3 i a hi
   exact ⟨e, a1, fun j x hj => by rw [Am]; exact a2 j x hj, hE a3 (Same.alloc S _)⟩
  ·cases hc
   exact .inr (Af _)
  ·cases hc
   exact ⟨_, _, _, by simp only; rw [T.get_set, if_pos rfl]⟩
theorem aL0 {k bytes b : Nat} {α : Type} {E : St → List AV → α → Prop} {S : St} {v : AV} {l : List α} (hE : aB5 E) (hk : 0 < k) (hb : S.h.get b = some (.cells [] false 0)) (hbl : b < S.nx) (h : aM k E S v l) (h1 : l.length ≤ room) (h2 : l.length * bytes ≤ room) :
  ∃ r S', gF bytes k (.sl b 0 0 0 false) v S = some (r, S') ∧ aM k E S' r l ∧ Same S S' ∧ ∀ c, aQ r = some c → c = b ∨ S.nx ≤ c := by
 obtain ⟨r, S', a, b', c, d, _⟩ := aAn (bytes := bytes) (E := E) hE hk hb hbl h h1 h2
 exact ⟨r, S', a, b', c, d⟩
theorem aGw {base : Nat} {suf : List AO} {Q : DS → Prop} : ∀ {pre : List AO} {i : Nat} {D : DS}, uN fns pre i base D (fun D' => uN fns suf (i + pre.length) base D' Q) → uN fns (pre ++ suf) i base D Q := by
 intro pre i D h
 obtain ⟨n, D1, h1, k, D2, h2, h3⟩ := h
 refine ⟨max n k, D2, ?_, h3⟩
 have h1' := pN (mJ fns (Nat.le_max_left n k)).call h1
 have h2' := pN (mJ fns (Nat.le_max_right n k)).call h2
 clear h1 h2
 induction pre generalizing i D with
 | nil => cases h1'; exact h2'
 | cons o os ih =>
  show bE (oK o i base (ev fns (max n k)).call D) _ = _
  have h1'' : bE (oK o i base (ev fns (max n k)).call D) (fun D' => rQ os (i + 1) base (ev fns (max n k)).call D') = some D1 := h1'
  cases he : oK o i base (ev fns (max n k)).call D with
  | none => rw [he] at h1''; cases h1''
  | some D' =>
   rw [he, aE] at h1''
   rw [aE]
   exact ih h1'' (by rw [Az] at h2'; rw [show i + 1 + os.length = i + (os.length + 1) by omega]; exact h2')
def Low (K : Nat) (D : DS) : Prop := (∀ e ∈ D.hs, e.1 < K) ∧ ∀ l ∈ D.ls, l.i < K ∧ l.mask < 2 ^ K
theorem aJ0 {call : eI} {o : AO} {i base K : Nat} {D D' : DS} (h : oK o i base call D = some D') (hi : i < K) (hm : o.mask < 2 ^ K) (hD : Low K D) : Low K D' := by
 unfold oK at h
 cases hw : eH o.grd D.F with
 | false => rw [hw, aL] at h; cases h; exact hD
 | true =>
  rw [hw, aF] at h
  obtain ⟨d, op, g, m⟩ := o
  cases op with
  | q q =>
   have h : bE (gR q D.F D.S.h) (fun v => some (⟨cJ d D.F v, D.S, D.ps, D.hs, bQ (dH q) (⟨q, D.F, v, i, m⟩ :: D.ls) D.ls⟩ : DS)) = some D' := h
   cases he : gR q D.F D.S.h with
   | none => rw [he] at h; cases h
   | some v =>
    rw [he, aE] at h
    cases h
    refine ⟨hD.1, fun l hl => ?_⟩
    simp only at hl
    cases hq : dH q with
    | false => rw [hq, aL] at hl; exact hD.2 l hl
    | true =>
     rw [hq, aF] at hl
     rcases Br.1 hl with rfl | hl
     ·exact ⟨hi, hm⟩
     ·exact hD.2 l hl
  | a a =>
   have h : bE (rO a D.F (base + i)) (fun r => some (⟨cJ d D.F r.1, D.S, ⟨i, base + i, r.2⟩ :: D.ps, D.hs, D.ls⟩ : DS)) = some D' := h
   cases he : rO a D.F (base + i) with
   | none => rw [he] at h; cases h
   | some v => rw [he, aE] at h; cases h; exact hD
  | x x =>
   have h : bQ (iQ D.hs m) (bE (vV x call D.F ⟨(cD m D.ps D.S.h).2, D.S.nx⟩) fun r => some (⟨cJ d D.F r.1, r.2, (cD m D.ps D.S.h).1, (i, m, r.2.h) :: D.hs, D.ls⟩ : DS)) none = some D' := h
   cases hl : iQ D.hs m with
   | false => rw [hl, aL] at h; cases h
   | true =>
    rw [hl, aF] at h
    cases he : vV x call D.F ⟨(cD m D.ps D.S.h).2, D.S.nx⟩ with
    | none => rw [he] at h; cases h
    | some v =>
     rw [he, aE] at h
     cases h
     refine ⟨fun e he => ?_, hD.2⟩
     rcases Br.1 he with rfl | he
     ·exact hi
     ·exact hD.1 e he
theorem aBT {call : eI} {base K : Nat} : ∀ {l : List AO} {i : Nat} {D D' : DS}, rQ l i base call D = some D' → i + l.length ≤ K → (∀ o ∈ l, o.mask < 2 ^ K) → Low K D → Low K D'
 | [], i, D, D', h, _, _, hD => by cases h; exact hD
 | o :: os, i, D, D', h, hi, hm, hD => by
  have h : bE (oK o i base call D) (fun D' => rQ os (i + 1) base call D') = some D' := h
  rw [Az] at hi
  cases he : oK o i base call D with
  | none => rw [he] at h; cases h
  | some D1 =>
   rw [he, aE] at h
   exact aBT h (by omega) (fun o ho => hm o (Bg _ ho)) (aJ0 he (by omega) (hm o (Bm ..)) hD)
theorem aAI {W : Nat → Prop} {h0 : T AB} {base K m : Nat} {h' : T AB} {r : List (Nat × Nat × T AB)} {l : jO} (h : cO l.v l.v = true ∧ aDC W base l.q l.F ∧ gR l.q l.F h0 = some l.v) (hl : l.i < K ∧ l.mask < 2 ^ K) (hm : ∀ i, i < K → Nat.testBit m i = true) : ∀ {hs : List (Nat × Nat × T AB)} {h1 : T AB}, (∀ e ∈ hs, ∀ b, b < base → ¬ W b → e.2.2.get b = h0.get b) → (∀ b, b < base → ¬ W b → h1.get b = h0.get b) → eM l (hs ++ (K, m, h') :: r) h1 = true
 | [], h1, _, hh => by
  have e1 : lN l.v (gR l.q l.F h1) = true := by rw [h.2.1.ev hh, h.2.2]; exact h.1
  have e2 : Nat.testBit l.mask K = false := Nat.testBit_lt_two_pow hl.2
  show eM l ((K, m, h') :: r) h1 = true
  unfold eM
  rw [e2, aL, e1, aF, hm _ hl.1, aF]
 | (i, mm, h2) :: rr, h1, hs, hh => by
  have e1 : lN l.v (gR l.q l.F h1) = true := by rw [h.2.1.ev hh, h.2.2]; exact h.1
  have e2 : eM l (rr ++ (K, m, h') :: r) h2 = true := aAI h hl hm (fun e he => hs e (by simp [he])) (hs (i, mm, h2) (by simp))
  show eM l ((i, mm, h2) :: (rr ++ (K, m, h') :: r)) h1 = true
  unfold eM
  rw [e1, e2]
  cases Nat.testBit l.mask i <;> cases Nat.testBit mm l.i <;> rfl
theorem aAo {W : Nat → Prop} {ops pre suf : List AO} {K : Nat} {A : bT} {S : St} {Q : Out → bT → St → Prop} {R : Fr → St → List gL → Prop} (he : ops = pre ++ suf) (hK : pre.length = K) (hm : (pre.all fun o => decide (o.mask < 2 ^ K)) = true)
  (h : ∀ S1, Same S S1 → S1.h = S.h → S1.nx = S.nx + ops.length → fJ fns W S.h S.nx pre 0 A.F S1 [] none R)
  (h2 : ∀ F S' ps hs ls, R F S' ps → (∀ m, (∀ i, i < K → Nat.testBit m i = true) → iQ hs m = true) → (∀ m h' r, (∀ i, i < K → Nat.testBit m i = true) → fE S.h (hs.reverse ++ (K, m, h') :: r) ls = true) → uN fns suf K S.nx ⟨F, S', ps, hs, ls⟩ fun D' => fE S.h D'.hs.reverse D'.ls = true ∧ Q .normal ⟨D'.F, A.inr⟩ ⟨(cD (2 ^ ops.length - 1) D'.ps D'.S.h).2, D'.S.nx⟩) : kH fns (.drw ops) A S Q := by
 refine qD ?_
 obtain ⟨n, D', e1, e2, e3⟩ := kJ (fns := fns) (i := 0) (D := ⟨A.F, ⟨S.h, S.nx + ops.length⟩, [], [], []⟩) (last := none) ⟨fun _ _ _ => rfl, Ck _ _, fun e he => (by cases he), fun l hl => (by cases hl), fun p hp => (by cases hp)⟩ rfl (h ⟨S.h, S.nx + ops.length⟩ (Same.nx S _) rfl rfl)
 have low : Low K D' := aBT e1 (by omega) (fun o ho => by have := Dm.1 hm o ho; simpa using this) ⟨fun e he => (by cases he), fun l hl => (by cases hl)⟩
 obtain ⟨F, S', ps, hs, ls⟩ := D'
 have hh := h2 F S' ps hs ls e2 (fun m hm => by
  cases hs with
  | nil => rfl
  | cons e r => exact hm _ (low.1 e (Bm ..))) (fun m h' r hm => kS fun l hl => aAI (e3.lds l hl) (low.2 l hl) hm (fun e he => e3.chain e (List.mem_reverse.1 he)) (fun _ _ _ => rfl))
 have : uN fns ops 0 S.nx ⟨A.F, ⟨S.h, S.nx + ops.length⟩, [], [], []⟩ fun D' => fE S.h D'.hs.reverse D'.ls = true ∧ Q .normal ⟨D'.F, A.inr⟩ ⟨(cD (2 ^ ops.length - 1) D'.ps D'.S.h).2, D'.S.nx⟩ := by
  subst he
  refine aGw ⟨n, _, e1, ?_⟩
  rw [Am, hK]
  exact hh
 exact this
noncomputable def aLP : List AO := [⟨(some 25),(.a (.bslice 3 1 0 [(.int .i64 (.ofNat 0))] [])),none,0⟩,
oq 26 (.faddr 3 (.t 5)),
om 27 2 (ld 26),
⟨(some 28),(.x (.app 3 1 8 (.t 25) (.t 27))),none,7⟩,
⟨(some 29),(.a (.bslice 3 1 0 [(.int .i64 (.ofNat 0))] [])),none,0⟩,
oq 30 (.faddr 4 (.t 5)),
om 31 32 (ld 30),
⟨(some 32),(.x (.app 3 1 8 (.t 29) (.t 31))),none,127⟩,
⟨(some 33),(.a (.bslice 3 1 0 [(.int .i64 (.ofNat 0))] [])),none,0⟩,
oq 34 (.faddr 5 (.t 5)),
om 35 512 (ld 34),
⟨(some 36),(.x (.app 3 1 8 (.t 33) (.t 35))),none,2047⟩,
om 37 1647 (.faddr 3 (.t 5))]
noncomputable def aMY : List AO := [⟨none,(.x (.st 1 (.t 37) (.t 28))),none,8191⟩,
om 38 16383 (.faddr 4 (.t 5)),
⟨none,(.x (.st 1 (.t 38) (.t 32))),none,32767⟩,
om 39 65535 (.faddr 5 (.t 5)),
⟨none,(.x (.st 1 (.t 39) (.t 36))),none,131071⟩]
def aNb (W : St) (F : Fr) (nb : Nat) (l1 l2 l3 : List Int) (F' : Fr) (Z : St) (ps : List gL) : Prop := ps = [] ∧ Same W Z ∧ (∀ j, j < 6 → aC j F' = aC j F) ∧ aC 37 F' = .ptr nb (0 + 3) ∧ bO .i64 Z (aC 28 F') l1 ∧ bO .i64 Z (aC 32 F') l2 ∧ bO .i64 Z (aC 36 F') l3 ∧ (∀ c, (aQ (aC 28 F') = some c ∨ aQ (aC 32 F') = some c ∨ aQ (aC 36 F') = some c) → W.nx ≤ c) ∧ (∀ c, aQ (aC 28 F') = some c → aQ (aC 32 F') ≠ some c ∧ aQ (aC 36 F') ≠ some c) ∧ ∀ c, (aQ (aC 28 F') = some c ∨ aQ (aC 32 F') = some c ∨ aQ (aC 36 F') = some c) → Wr Z c
theorem wH {α : Type} {k : Nat} {E : St → List AV → α → Prop} {S : St} {v : AV} {l : List α} {c : Nat} (h : aM k E S v l) (hc : aQ v = some c) : c < S.nx := by
 rcases h with ⟨_, rfl | rfl⟩ | ⟨b, off, cap, o, cs, rfl, _, hb, _⟩
 ·cases hc
 ·cases hc
 ·cases hc; exact hb
theorem fF {S S' : St} {v : AV} {l : List Int} (h : bO .i64 S v l) (hn : S.nx ≤ S'.nx) (hh : ∀ c, aQ v = some c → S'.h.get c = S.h.get c) : bO .i64 S' v l := ofG (aM.moveB (toG h) hn hh fun _ _ h => h)
theorem aII {W Y : St} {F : Fr} {nb : Nat} {k p f : AV} {xa xw xp : AV} {l1 l2 l3 : List Int} (p5 : aC 5 F = .ptr nb 0) (hb : W.h.get nb = some (.cells [k, p, f, xa, xw, xp] false 0)) (lb : nb < W.nx) (h1 : bO .i64 W xa l1) (h2 : bO .i64 W xw l2) (h3 : bO .i64 W xp l3) (b1 : l1.length * 8 ≤ 140737488355328) (b2 : l2.length * 8 ≤ 140737488355328) (b3 : l3.length * 8 ≤ 140737488355328)
  (hY : Same W Y) (nY : Y.nx = W.nx + 18) : fJ fns (fun _ => False) W.h W.nx aLP 0 F Y [] none (aNb W F nb l1 l2 l3) := by
 have s1 := bO.self h1
 have s2 := bO.self h2
 have s3 := bO.self h3
 unfold aLP
 simp only [↓sU,sD,rE,↓reduceIte,rA, p5, aA, aO, aB, eV hb, lb, Ax, s1, qC]
 obtain ⟨U1, hU1⟩ : ∃ U : St, U = ⟨Y.h.set (W.nx + 0) (some (.cells [] false 0)), Y.nx⟩ := ⟨_, rfl⟩
 have sU1 : Same W U1 := by rw [hU1]; exact ⟨hY.1, fun c hc => by simp only; rw [T.get_set, if_neg (by omega)]; exact hY.2 c hc⟩
 have gU1 : U1.h.get (W.nx + 0) = some (.cells [] false 0) := by rw [hU1]; simp only; rw [T.get_set, if_pos rfl]
 have nU1 : U1.nx = W.nx + 18 := by rw [hU1]; exact nY
 obtain ⟨r1, V1, e1, i1, v1, k1, w1⟩ := aAn (bytes := 8) (E := aHB) (l := l1) zD Nat.one_pos gU1 (by omega) (toG (h1.same sU1)) (by unfold room; omega) (by unfold room; omega)
 refine wN rfl (by rw [cR rfl]; simp only [↓sU,sD,rE,↓reduceIte,rA]; rw [← hU1]; exact e1) ?_ ?_
 ·rw [cR rfl, ← hU1]
  exact ⟨v1.1, fun c hc _ => v1.2 c (by omega)⟩
 rw [cR rfl]
 have sV1 := sU1.trans v1
 simp only [↓sU,sD,rE,↓reduceIte,rA, p5, aA, aO, aB, fL hb, lb, Ax, s2, qC]
 obtain ⟨U2, hU2⟩ : ∃ U : St, U = ⟨V1.h.set (W.nx + 4) (some (.cells [] false 0)), V1.nx⟩ := ⟨_, rfl⟩
 have sU2 : Same W U2 := by rw [hU2]; exact ⟨sV1.1, fun c hc => by simp only; rw [T.get_set, if_neg (by omega)]; exact sV1.2 c hc⟩
 have gU2 : U2.h.get (W.nx + 4) = some (.cells [] false 0) := by rw [hU2]; simp only; rw [T.get_set, if_pos rfl]
 have nU2 : U2.nx = V1.nx := by rw [hU2]
 have nV1 := v1.1
 have i1U : bO .i64 U2 r1 l1 := fF (ofG i1) (by omega) fun c hc => by
  rw [hU2]
  simp only
  rw [T.get_set, if_neg (by rcases k1 c hc with h | h <;> omega)]
 obtain ⟨r2, V2, e2, i2, v2, k2, w2⟩ := aAn (bytes := 8) (E := aHB) (l := l2) zD Nat.one_pos gU2 (by omega) (toG (h2.same sU2)) (by unfold room; omega) (by unfold room; omega)
 refine wN rfl (by rw [cR rfl]; simp only [↓sU,sD,rE,↓reduceIte,rA]; rw [← hU2]; exact e2) ?_ ?_
 ·rw [cR rfl, ← hU2]
  exact ⟨v2.1, fun c hc _ => v2.2 c (by omega)⟩
 rw [cR rfl]
 have sV2 := sU2.trans v2
 have i1V := i1U.same v2
 simp only [↓sU,sD,rE,↓reduceIte,rA, p5, aA, aO, aB, gI hb, lb, Ax, s3, qC]
 obtain ⟨U3, hU3⟩ : ∃ U : St, U = ⟨V2.h.set (W.nx + 8) (some (.cells [] false 0)), V2.nx⟩ := ⟨_, rfl⟩
 have sU3 : Same W U3 := by rw [hU3]; exact ⟨sV2.1, fun c hc => by simp only; rw [T.get_set, if_neg (by omega)]; exact sV2.2 c hc⟩
 have gU3 : U3.h.get (W.nx + 8) = some (.cells [] false 0) := by rw [hU3]; simp only; rw [T.get_set, if_pos rfl]
 have nU3 : U3.nx = V2.nx := by rw [hU3]
 have nV2 := v2.1
 have i1W : bO .i64 U3 r1 l1 := fF i1V (by omega) fun c hc => by
  rw [hU3]
  simp only
  rw [T.get_set, if_neg (by rcases k1 c hc with h | h <;> omega)]
 have i2W : bO .i64 U3 r2 l2 := fF (ofG i2) (by omega) fun c hc => by
  rw [hU3]
  simp only
  rw [T.get_set, if_neg (by rcases k2 c hc with h | h <;> omega)]
 obtain ⟨r3, V3, e3, i3, v3, k3, w3⟩ := aAn (bytes := 8) (E := aHB) (l := l3) zD Nat.one_pos gU3 (by omega) (toG (h3.same sU3)) (by unfold room; omega) (by unfold room; omega)
 refine wN rfl (by rw [cR rfl]; simp only [↓sU,sD,rE,↓reduceIte,rA]; rw [← hU3]; exact e3) ?_ ?_
 ·rw [cR rfl, ← hU3]
  exact ⟨v3.1, fun c hc _ => v3.2 c (by omega)⟩
 rw [cR rfl]
 simp only [↓sU,sD,rE,↓reduceIte,rA, p5, aA, aO, aB]
 refine ⟨rfl, sU3.trans v3, fun j hj => ?_, by simp only [↓sU,sD,rE,↓reduceIte,rA], by simp only [↓sU,sD,rE,↓reduceIte,rA]; exact i1W.same v3, by simp only [↓sU,sD,rE,↓reduceIte,rA]; exact i2W.same v3, by simp only [↓sU,sD,rE,↓reduceIte,rA]; exact ofG i3, fun c hc => ?_, fun c hc => ?_, fun c hc => ?_⟩
 ·have : j = 0 ∨ j = 1 ∨ j = 2 ∨ j = 3 ∨ j = 4 ∨ j = 5 := by omega
  rcases this with rfl | rfl | rfl | rfl | rfl | rfl <;> simp only [↓sU,sD,rE,↓reduceIte,rA]
 ·simp only [↓sU,sD,rE,↓reduceIte,rA] at hc
  rcases hc with h | h | h
  ·rcases k1 c h with h | h <;> omega
  ·rcases k2 c h with h | h <;> omega
  ·rcases k3 c h with h | h <;> omega
 ·simp only [↓sU,sD,rE,↓reduceIte,rA] at hc ⊢
  have l1' := wH i1 hc
  have l2' := fun h => wH i2 (c := c) h
  rcases k1 c hc with h | h
  ·refine ⟨fun e => ?_, fun e => ?_⟩
   ·rcases k2 c e with h | h <;> omega
   ·rcases k3 c e with h | h <;> omega
  ·refine ⟨fun e => ?_, fun e => ?_⟩
   ·rcases k2 c e with h | h <;> omega
   ·rcases k3 c e with h | h <;> omega
 ·simp only [↓sU,sD,rE,↓reduceIte,rA] at hc
  rcases hc with h | h | h
  ·refine ((w1 c h).eq ?_)
   have := wH i1 h
   have q := k1 c h
   rw [v3.2 c (by omega), hU3]
   simp only
   rw [T.get_set, if_neg (by omega), v2.2 c (by omega), hU2]
   simp only
   rw [T.get_set, if_neg (by omega)]
  ·refine ((w2 c h).eq ?_)
   have := wH i2 h
   have q := k2 c h
   rw [v3.2 c (by omega), hU3]
   simp only
   rw [T.get_set, if_neg (by omega)]
  ·exact w3 c h
theorem aJ8 {ops : List AO} {W : St} {F : Fr} {inr : Bool} {nb : Nat} {k p f : AV} {xa xw xp : AV} {l1 l2 l3 : List Int} {Q : Out → bT → St → Prop} (he : ops = aLP ++ aMY) (p5 : aC 5 F = .ptr nb 0) (hb : W.h.get nb = some (.cells [k, p, f, xa, xw, xp] false 0)) (lb : nb < W.nx) (h1 : bO .i64 W xa l1) (h2 : bO .i64 W xw l2) (h3 : bO .i64 W xp l3) (b1 : l1.length * 8 ≤ 140737488355328) (b2 : l2.length * 8 ≤ 140737488355328) (b3 : l3.length * 8 ≤ 140737488355328)
  (hQ : ∀ F' Z r1 r2 r3, (∀ j, j < 6 → aC j F' = aC j F) → cU nb W Z → Z.h.get nb = some (.cells [k, p, f, r1, r2, r3] false 0) → bO .i64 Z r1 l1 → bO .i64 Z r2 l2 → bO .i64 Z r3 l3 → (∀ c, (aQ r1 = some c ∨ aQ r2 = some c ∨ aQ r3 = some c) → W.nx ≤ c) → (∀ c, aQ r1 = some c → aQ r2 ≠ some c ∧ aQ r3 ≠ some c) → (∀ c, (aQ r1 = some c ∨ aQ r2 = some c ∨ aQ r3 = some c) → Wr Z c) → Q .normal ⟨F', inr⟩ Z) : kH fns (.drw ops) ⟨F, inr⟩ W Q := by
 have hlen : ops.length = 18 := by rw [he]; rfl
 refine aAo (K := 13) (R := aNb W F nb l1 l2 l3) he rfl rfl (fun S1 s h n => aII p5 hb lb h1 h2 h3 b1 b2 b3 s (by rw [n, hlen])) ?_
 rintro F' S' ps hs ls ⟨rfl, sZ, hk, p37, i1, i2, i3, hbk, hdj, hwr⟩ hlast hld
 have p5' : aC 5 F' = .ptr nb 0 := (hk 5 (by omega)).trans p5
 have hb' := (sZ.2 _ lb).trans hb
 generalize hr1 : aC 28 F' = r1 at i1 hbk hdj hwr
 generalize hr2 : aC 32 F' = r2 at i2 hbk hdj hwr
 generalize hr3 : aC 36 F' = r3 at i3 hbk hdj hwr
 have m1 : ∀ i, i < 13 → Nat.testBit 8191 i = true := by decide
 unfold aMY
 refine kE (v := .undef) (S1 := ⟨S'.h.set nb (some (.cells [k, p, f, r1, xw, xp] false 0)), S'.nx⟩) (hlast _ m1) (fun call => ?_) ?_
 ·rw [dW]
  simp only [iJ, p37, hr1, cA, bO.cells i1, aE]
  exact stc (S := S') hb' (by simp)
 simp only [iU, dP, aA, aB, aO, aL, iJ, cA, gH, bL, p5', rE, ↓reduceIte, rA]
 refine kE (v := .undef) (S1 := ⟨(S'.h.set nb (some (.cells [k, p, f, r1, xw, xp] false 0))).set nb (some (.cells [k, p, f, r1, r2, xp] false 0)), S'.nx⟩) (show Nat.testBit 32767 13 = true by decide) (fun call => ?_) ?_
 ·rw [dW]
  simp only [iJ, bL, rE, ↓reduceIte, hr2, cA, bO.cells i2, aE]
  exact stc (cs := [k, p, f, r1, xw, xp]) (p := 4) (S := ⟨S'.h.set nb (some (.cells [k, p, f, r1, xw, xp] false 0)), S'.nx⟩) (by simp only; rw [T.get_set, if_pos rfl]) (by simp)
 simp only [iU, dP, aA, aB, aO, aL, iJ, cA, gH, bL, p5', rE, ↓reduceIte, rA]
 refine kE (v := .undef) (S1 := ⟨((S'.h.set nb (some (.cells [k, p, f, r1, xw, xp] false 0))).set nb (some (.cells [k, p, f, r1, r2, xp] false 0))).set nb (some (.cells [k, p, f, r1, r2, r3] false 0)), S'.nx⟩) (show Nat.testBit 131071 15 = true by decide) (fun call => ?_) ?_
 ·rw [dW]
  simp only [iJ, bL, rE, ↓reduceIte, hr3, cA, bO.cells i3, aE]
  exact stc (cs := [k, p, f, r1, r2, xp]) (p := 5) (S := ⟨(S'.h.set nb (some (.cells [k, p, f, r1, xw, xp] false 0))).set nb (some (.cells [k, p, f, r1, r2, xp] false 0)), S'.nx⟩) (by simp only; rw [T.get_set, if_pos rfl]) (by simp)
 rw [jR]
 refine ⟨?_, ?_⟩
 ·simp only [Cz, Bf, Dj, Cp, Bw]
  exact hld _ _ _ m1
 ·simp only [cA, gH]
  have hne : ∀ {v : AV} {l : List Int}, bO .i64 S' v l → (∀ c, aQ v = some c → W.nx ≤ c) → bO .i64 ⟨((S'.h.set nb (some (.cells [k, p, f, r1, xw, xp] false 0))).set nb (some (.cells [k, p, f, r1, r2, xp] false 0))).set nb (some (.cells [k, p, f, r1, r2, r3] false 0)), S'.nx⟩ v l := fun {v l} h hc => fF h (Af _) fun c hcc => by
   have := hc c hcc
   simp only
   rw [T.get_set, if_neg (by omega), T.get_set, if_neg (by omega), T.get_set, if_neg (by omega)]
  refine hQ _ _ r1 r2 r3 (fun j hj => ?_) ⟨sZ.1, fun c hc hn => ?_⟩ (by simp only; rw [T.get_set, if_pos rfl]) (hne i1 fun c hc => hbk c (.inl hc)) (hne i2 fun c hc => hbk c (.inr (.inl hc))) (hne i3 fun c hc => hbk c (.inr (.inr hc))) hbk hdj (fun c hc => (hwr c hc).eq (by have := hbk c hc; simp only; rw [T.get_set, if_neg (by omega), T.get_set, if_neg (by omega), T.get_set, if_neg (by omega)]))
  ·rw [bL, if_neg (by omega), bL, if_neg (by omega)]
   exact hk j hj
  ·simp only
   rw [T.get_set, if_neg hn, T.get_set, if_neg hn, T.get_set, if_neg hn]
   exact sZ.2 c hc
def vN (X : St) (P : Nat → Prop) (e : List AV) (a : cM) : Prop := ∃ xa xw xp, e = [.int .i64 a.kind, .int .i64 a.player, .int .i64 a.info, xa, xw, xp] ∧ bO .i64 X xa a.next ∧ bO .i64 X xw a.weights ∧ bO .i64 X xp a.pay ∧ ∀ c, (aQ xa = some c ∨ aQ xw = some c ∨ aQ xp = some c) → P c
def kO (X : St) (P : Nat → Prop) (cs : List AV) (l : List cM) : Prop := cs.length = l.length * 6 ∧ ∀ (j : Nat) (a : cM), l[j]? = some a → ∃ e : List AV, e.length = 6 ∧ (∀ (q : Nat) (x : AV), e[q]? = some x → cs[j * 6 + q]? = some x) ∧ vN X P e a
theorem dV {k : IntKind} {X : St} {v : AV} {l : List Int} {c : Nat} (h : bO k X v l) (hc : aQ v = some c) : c < X.nx := by
 rcases h with ⟨_, rfl | rfl⟩ | ⟨b, off, cap, o, cs, rfl, _, hb, _⟩
 ·cases hc
 ·cases hc
 ·cases hc; exact hb
theorem vN.move {X X' : St} {P P' : Nat → Prop} {e : List AV} {a : cM} (h : vN X P e a) (hn : X.nx ≤ X'.nx) (hh : ∀ c, c < X.nx → P c → X'.h.get c = X.h.get c ∧ P' c) : vN X' P' e a := by
 obtain ⟨xa, xw, xp, rfl, h1, h2, h3, h4⟩ := h
 refine ⟨xa, xw, xp, rfl, fF h1 hn fun c hc => (hh c (dV h1 hc) (h4 c (.inl hc))).1, fF h2 hn fun c hc => (hh c (dV h2 hc) (h4 c (.inr (.inl hc)))).1, fF h3 hn fun c hc => (hh c (dV h3 hc) (h4 c (.inr (.inr hc)))).1, fun c hc => ?_⟩
 rcases hc with hc | hc | hc
 ·exact (hh c (dV h1 hc) (h4 c (.inl hc))).2
 ·exact (hh c (dV h2 hc) (h4 c (.inr (.inl hc)))).2
 ·exact (hh c (dV h3 hc) (h4 c (.inr (.inr hc)))).2
theorem kO.move {X X' : St} {P P' : Nat → Prop} {cs : List AV} {l : List cM} (h : kO X P cs l) (hn : X.nx ≤ X'.nx) (hh : ∀ c, c < X.nx → P c → X'.h.get c = X.h.get c ∧ P' c) : kO X' P' cs l :=
 ⟨h.1, fun j a hj => by
  obtain ⟨e, e1, e2, e3⟩ := h.2 j a hj
  exact ⟨e, e1, e2, e3.move hn hh⟩⟩
theorem kO.push {X : St} {P : Nat → Prop} {cs e : List AV} {l : List cM} {a : cM} (h : kO X P cs l) (he : vN X P e a) : kO X P (cs ++ e) (l ++ [a]) := by
 have hl : e.length = 6 := by
  obtain ⟨_, _, _, rfl, _⟩ := he
  rfl
 refine ⟨by rw [Ah, h.1, hl, Ah, Aq, Dq], fun j b hj => ?_⟩
 rw [Dz] at hj
 split at hj
 ·obtain ⟨e', e1, e2, e3⟩ := h.2 j b hj
  refine ⟨e', e1, fun q x hq => ?_, e3⟩
  have := e2 q x hq
  rw [An (Ai.1 this).1]
  exact this
 ·rename_i hlt
  have hj0 : j - l.length = 0 := by
   rcases Be (j - l.length) with h0 | h0
   ·exact h0
   ·obtain ⟨q, hq⟩ := Nat.exists_eq_succ_of_ne_zero (Nat.pos_iff_ne_zero.1 h0)
    rw [hq] at hj
    simp at hj
  rw [hj0] at hj
  simp at hj
  subst hj
  have hjl : j = l.length := by omega
  subst hjl
  refine ⟨e, hl, fun q x hq => ?_, he⟩
  rw [Ao (by rw [h.1]; omega), h.1, Ec]
  exact hq
theorem aC7 {t : Nat} {x : cK} {F : Fr} {id : Nat} {k p f xa xw xp z0 z1 z2 z3 z4 z5 : AV} (hx : x.val F = .agg [k, p, f, xa, xw, xp]) : rO (.bslice t 6 1 [z0, z1, z2, z3, z4, z5] [(0, x)]) F id = some (.sl id 0 1 1 false, .cells [k, p, f, xa, xw, xp] false 0) := by
 show (bE (eF (repeatL [z0, z1, z2, z3, z4, z5] 1) [(0 * 6, 6, x.val F)]) fun cs => some (AV.sl id 0 1 1 false, AB.cells cs false 0)) = _
 rw [hx]
 show (bE (bE (AV.cells (.agg [k, p, f, xa, xw, xp])) _) _) = _
 rw [bK, aE]
 rfl
theorem aN0 {S : St} {t : Nat} {k p f xa xw xp : AV} {o : Bool} {sz : Nat} (h : S.h.get t = some (.cells [k, p, f, xa, xw, xp] o sz)) : eE (.sl t 0 1 1 false) S.h 6 1 = some [k, p, f, xa, xw, xp] := by
 show bE (cP S.h t) (fun cs => cut cs 0 (1 * 6)) = _
 unfold cP
 rw [h]
 rfl
theorem gN.appB {k n m bytes : Nat} {S0 S : St} {v x : AV} {cs new : List AV} (h : gN k S0 S v n cs) (hS : Same S0 S) (hl : jZ x = some m) (hs : eE x S.h k m = some new) (hn : new.length = m * k) (hm : 0 < m) (h1 : n + m ≤ room) (h2 : (n + m) * bytes ≤ room) :
  ∃ v' S', gF bytes k v x S = some (v', S') ∧ gN k S0 S' v' (n + m) (cs ++ new) ∧ Same S0 S' ∧ S.nx ≤ S'.nx ∧ (∀ c, c < S.nx → aQ v ≠ some c → S'.h.get c = S.h.get c) ∧ aQ v' = some S.nx := by
 rcases h with ⟨rfl, rfl, rfl⟩ | ⟨b, rfl, hb0, hb, hg, hc⟩
 ·refine ⟨.sl S.nx 0 m m true, ⟨S.h.set S.nx (some (.cells new true k)), S.nx + 1⟩, ?_, .inr ⟨S.nx, by rw [Am], hS.1, by simp, ?_, by rw [Am]; exact hn⟩, hS.trans (Same.alloc S _), by simp, fun c hc _ => (Same.alloc S _).2 c hc, rfl⟩
  ·show (bE (jZ x) fun j => bE (eE x S.h k j) fun new => yS .nilsl bytes k j new S) = _
   rw [hl, aE, hs, aE]
   show oS bytes k m new S = _
   unfold oS
   rw [show Nat.beq m 0 = false from Cb.2 fun e => by rw [Bd] at e; omega, aL, Ak (by omega), aF, Ak (by rw [Am] at h2; exact h2), aF]
   rfl
  ·simp only
   rw [T.get_set, if_pos rfl]
   rfl
 ·refine ⟨.sl S.nx 0 (n + m) (n + m) true, ⟨(S.h.set b none).set S.nx (some (.cells (cs ++ new) true k)), S.nx + 1⟩, ?_, .inr ⟨S.nx, rfl, hS.1, by simp, ?_, by rw [Ah, hc, hn, Dq]⟩, ⟨Al hS.1 (by simp), fun c hc => ?_⟩, by simp, fun c hc hne => ?_, rfl⟩
  ·show (bE (jZ x) fun j => bE (eE x S.h k j) fun new => yS (.sl b 0 n n true) bytes k j new S) = _
   rw [hl, aE, hs, aE]
   show jU bytes k b 0 n n true m new S = _
   unfold jU
   have e2 : Nat.ble (n + m) n = false := by rw [Cb]; intro h; have := Ay h; omega
   rw [e2, aL, Ak h1, aF, Ak h2, aF, hg, aE]
   have e3 : cut cs 0 (n * k) = some cs := by
    unfold cut
    rw [fO, fZ, Dk, if_pos (by omega), Bn (by omega)]
   have e4 : Nat.beq (0 + n * k) (jY cs) = true := by rw [gG, hc, Bd]; omega
   have e5 : Nat.beq k k = true := Nat.beq_refl k
   simp only [tQ, e3, aE, aF, e4, e5, grown, fM]
  ·simp only
   rw [T.get_set, if_pos rfl]
  ·simp only
   have := hS.1
   rw [T.get_set, if_neg (by omega), T.get_set, if_neg (by omega)]
   exact hS.2 c hc
  ·simp only
   have : c ≠ b := fun e => hne (by rw [e]; rfl)
   rw [T.get_set, if_neg (by omega), T.get_set, if_neg this]
def aCt (cs : List AV) (n : Nat) : Prop := ∀ j, j < n → ∀ xa xw xp, cs[j * 6 + 3]? = some xa → cs[j * 6 + 4]? = some xw → cs[j * 6 + 5]? = some xp → ∀ c, aQ xa = some c → aQ xw ≠ some c ∧ aQ xp ≠ some c
theorem aCt.push {cs : List AV} {n : Nat} {a0 a1 a2 r1 r2 r3 : AV} (h : aCt cs n) (hl : cs.length = n * 6) (hd : ∀ c, aQ r1 = some c → aQ r2 ≠ some c ∧ aQ r3 ≠ some c) : aCt (cs ++ [a0, a1, a2, r1, r2, r3]) (n + 1) := by
 intro j hj xa xw xp h1 h2 h3
 by_cases e : j = n
 ·subst e
  rw [Ao (by omega), hl, show j * 6 + 3 - j * 6 = 3 by omega] at h1
  rw [Ao (by omega), hl, show j * 6 + 4 - j * 6 = 4 by omega] at h2
  rw [Ao (by omega), hl, show j * 6 + 5 - j * 6 = 5 by omega] at h3
  cases h1
  cases h2
  cases h3
  exact hd
 ·rw [An (by omega)] at h1 h2 h3
  exact h j (by omega) xa xw xp h1 h2 h3
def OgI (X0 : St) (gb rb ob : Nat) (jv : AV) (g : bF) (k : Nat) (A : bT) (X : St) : Prop := A.inr = false ∧ X0.nx ≤ X.nx ∧ (∀ c, c < X0.nx → c ≠ ob → X.h.get c = X0.h.get c) ∧ ∃ (i : Nat) (pv : AV) (cs : List AV), i + k = g.nodes.length ∧ X.h.get ob = some (.cells [.int .i64 g.players, pv, jv] false 0) ∧ gN 6 X0 X pv i cs ∧ kO X (fun c => X0.nx ≤ c ∧ aQ pv ≠ some c ∧ Wr X c) cs (g.nodes.take i) ∧ aCt cs i ∧ aC 1 A.F = .ptr gb 0 ∧ aC 2 A.F = .ptr rb 0 ∧ aC 3 A.F = .ptr ob 0 ∧ aC 4 A.F = .int .i64 (i : Int)
theorem aIW {W : Nat → Prop} {h0 : T AB} {base : Nat} {m i : Nat} {l : List AO} {F : Fr} {S : St} {last : Option Nat} {Q : Fr → St → List gL → Prop} {n j id : Nat} {x v : cK} {cs cs' : List AV} (ht : Nat.testBit m j = true) (h : jX last m = true) (hx : x.val F = .ptr id 0) (hv : (v.val F).cells = some cs') (h1 : cs.length = n) (h2 : cs'.length = n) (hid : base ≤ id)
  (hr : ∀ S1, cU id S S1 → S1.nx = S.nx → S1.h.get id = some (.cells cs' false 0) → fJ fns W h0 base l (i + 1) F S1 [] (some i) Q) : fJ fns W h0 base (⟨none, .x (.st n x v), none, m⟩ :: l) i F S [⟨j, id, .cells cs false 0⟩] last Q := by
 have hb : (⟨S.h.set id (some (.cells cs false 0)), S.nx⟩ : St).h.get id = some (.cells cs false 0) := by simp only; rw [T.get_set, if_pos rfl]
 refine tD (S1 := ⟨(S.h.set id (some (.cells cs false 0))).set id (some (.cells cs' false 0)), S.nx⟩) h ?_ ⟨Af _, fun c hc hw => ?_⟩ ?_
 ·rw [cR ht, hv, aE, hx]; exact vL hb h1 h2
 ·simp only
  rw [cR ht, T.get_set, if_neg (by omega)]
 ·rw [cR ht]
  refine hr _ ⟨Af _, fun c hc hne => ?_⟩ rfl ?_
  ·simp only
   rw [T.get_set, if_neg hne, T.get_set, if_neg hne]
  ·simp only
   rw [T.get_set, if_pos rfl]
theorem aLz {F : Fr} {h : Ev.T AB} {ps : Int} {r : AV} (h7 : aC 7 F = .int .i64 ps) (h11 : aC 11 F = r) (hr : r.cells = some [r]) : gR (.build [.int .i64 0, .nilsl, .nilsl] [(0, 1, .t 7), (2, 1, .t 11)]) F h = some (.agg [.int .i64 ps, .nilsl, r]) := by
 show (bE (eF _ (dJ F [(0, 1, .t 7), (2, 1, .t 11)])) fun cs => some (AV.agg cs)) = _
 simp only [dJ, show (cK.t 7).val F = .int .i64 ps from h7, show (cK.t 11).val F = r from h11, eF, cT, hr, aE]
 rfl
theorem aHn {k : Nat} {α : Type} {E : St → List AV → α → Prop} {S : St} {v : AV} {l : List α} (h : aM k E S v l) : v.cells = some [v] := by
 rcases h with ⟨_, rfl | rfl⟩ | ⟨b, off, cap, o, cs, rfl, _⟩ <;> rfl
theorem aGR {S : St} {nv iv : AV} {g : bF} (H : Has fns) (hn : aM 6 cL S nv g.nodes) (hi : aM 2 dB S iv g.infos) (hT : aNl g) (hln : g.nodes.length ≤ 100000) :
  iM fns (.fn 41 [] []) [.agg [.int .i64 g.players, nv, iv]] S fun r X => Same S X ∧ ∃ mv jv nz cs, r = .agg [.int .i64 g.players, mv, jv] ∧ S.nx ≤ nz ∧ gN 6 ⟨X.h, nz⟩ X mv g.nodes.length cs ∧ kO X (fun c => S.nx ≤ c ∧ aQ mv ≠ some c ∧ Wr X c) cs g.nodes ∧ aCt cs g.nodes.length ∧ aM 2 dB X jv g.infos := by
 refine cV H.f41 (by simp) ?_
 simp only [↓aH,aJ,rE,↓reduceIte, rA]
 refine cF ?_
 refine eQ (cs := [.int .i64 g.players, nv, iv]) rfl ?_
 intro S1 s1 n1 c1
 refine dC ?_
 intro S2 s2 n2 c2
 simp only [↓aH,aJ,rE,↓reduceIte, rA]
 have d1 := (s2.2 _ (show S.nx < S1.nx by omega)).trans c1
 have sS := s1.trans s2
 have lt1 : S.nx < S2.nx := by omega
 have siv := aM.self hi
 have hib := hT.1
 refine aD (nJ (fun _ => False) ?_)
 intro Y sY hY nY
 simp only [Az, Bz, rA] at nY
 simp only [↓sU,sD,rE,↓reduceIte,rA, aA, aO, aB, vH d1, oC d1, lt1, Ax, siv, qC]
 obtain ⟨U, hU⟩ : ∃ U : St, U = ⟨Y.h.set (S2.nx + 2) (some (.cells [] false 0)), Y.nx⟩ := ⟨_, rfl⟩
 have sUx : Same S2 U := by rw [hU]; exact ⟨sY.1, fun c hc => by simp only; rw [T.get_set, if_neg (by omega)]; exact sY.2 c hc⟩
 have gU : U.h.get (S2.nx + 2) = some (.cells [] false 0) := by rw [hU]; simp only; rw [T.get_set, if_pos rfl]
 have nU : U.nx = S2.nx + 9 := by rw [hU]; exact nY
 obtain ⟨jv, V, e1, i1, v1, k1⟩ := aL0 (k := 2) (bytes := 16) (E := dB) (l := g.infos) cQ (by decide) gU (by omega) (aM.same (E := dB) cQ hi (sS.trans sUx)) (by unfold room; omega) (by unfold room; omega)
 have nV := v1.1
 refine wN rfl (by rw [cR rfl]; simp only [↓sU,sD,rE,↓reduceIte,rA]; rw [← hU]; exact e1) ?_ ?_
 ·rw [cR rfl, ← hU]
  exact ⟨v1.1, fun c hc _ => v1.2 c (by omega)⟩
 rw [cR rfl]
 simp only [↓sU,sD,rE,↓reduceIte,rA, lO]
 rw [aLz (ps := g.players) (r := jv) (by simp only [↓sU,sD,rE,↓reduceIte,rA]) (by simp only [↓sU,sD,rE,↓reduceIte,rA]) (aHn i1)]
 simp only [↓sU,sD,rE,↓reduceIte,rA, tA, nH, rA]
 refine aIW (by rfl) rfl (by simp only [↓sU,sD,rE,↓reduceIte,rA]) (by simp only [↓sU,sD,rE,↓reduceIte,rA, bK]; rfl) rfl rfl (by omega) ?_
 intro Z z nZ gZ
 have sZ : Same S2 Z := by exact z.same (sUx.trans v1) (by omega)
 have hjb : ∀ c, aQ jv = some c → c ≠ S2.nx + 7 := fun c hc => by rcases k1 c hc with h | h <;> omega
 have iZ : aM 2 dB Z jv g.infos := aM.moveB i1 z.1 (fun c hc => z.2 c (by
  rcases i1 with ⟨_, rfl | rfl⟩ | ⟨b, off, cap, o, cs, rfl, _, hb, _⟩
  ·cases hc
  ·cases hc
  ·cases hc; exact hb) (hjb c hc)) fun _ _ h => h
 simp only [↓sU,sD,rE,↓reduceIte,rA]
 have ob7 : S2.nx + 7 < Z.nx := by omega
 have gbZ := (sZ.2 _ lt1).trans d1
 have rbZ := (sZ.2 _ (show S1.nx < S2.nx by omega)).trans c2
 have hjl : ∀ c, aQ jv = some c → c < Z.nx := fun c hc => by
  rcases iZ with ⟨_, rfl | rfl⟩ | ⟨b, off, cap, o, cs, rfl, _, hb, _⟩
  ·cases hc
  ·cases hc
  ·cases hc; exact hb
 have sSZ := sS.trans sZ
 refine aD (bN (Q := fun o A' X => o = .normal ∧ OgI Z S.nx S1.nx (S2.nx + 7) jv g 0 A' X) (aD (aP ?_)) ?_)
 ·simp only [↓sU,sD,rE,↓reduceIte,rA]
  refine aU (cI (OgI Z S.nx S1.nx (S2.nx + 7) jv g) ?_ g.nodes.length _ _ ⟨rfl, Af _, fun _ _ _ => rfl, 0, .nilsl, [], by omega, gZ, .inl ⟨rfl, rfl, rfl⟩, ⟨rfl, fun j a hj => by simp at hj⟩, fun j hj => absurd hj (Bv j), by refine ⟨?_,?_,?_,?_⟩<;>simp only [↓sU,sD,rE,↓reduceIte,rA]⟩)
  rintro k ⟨F, inr⟩ X ⟨q0, nX, hR, i, pv, cs, hik, hob, hg, hB, hD, p1, p2, p3, p4⟩
  simp only at q0 p1 p2 p3 p4
  subst q0
  have gbX := (hR S.nx (by omega) (by omega)).trans gbZ
  have sSX : Same S X := ⟨Al sSZ.1 nX, fun c hc => (hR c (by have := sSZ.1; omega) (by omega)).trans (sSZ.2 c hc)⟩
  refine jH ?_
  simp only [↓sU,sD,rE,↓reduceIte,rA, p1, p4, aA, aB, kI gbX, hn.len]
  by_cases hlt : i < g.nodes.length
  rotate_left
  ·refine aT (by simp only [↓sU,sD,rE,↓reduceIte,rA, Aa (show ¬ (i : Int) < ((g.nodes.length : Nat) : Int) by omega)]) (cC ?_)
   simp only [↓sU,sD,rE,↓reduceIte,rA]
   obtain rfl : k = 0 := by omega
   exact ⟨rfl, nX, hR, i, pv, cs, hik, hob, hg, hB, hD, by refine ⟨?_,?_,?_,?_⟩<;>simp only [↓sU,sD,rE,↓reduceIte,rA,p1,p2,p3,p4]⟩
  refine aY (by simp only [↓sU,sD,rE,↓reduceIte,rA, Ad (show (i : Int) < ((g.nodes.length : Nat) : Int) by omega)]) (aN ?_)
  try simp only [↓sU,sD,rE,↓reduceIte,rA]
  obtain ⟨t1, t2, t3⟩ := hT.2 _ (Bx (dI hlt))
  obtain ⟨_, bx, qx, hiax, hbx, _, ⟨xa, xw, xp, rfl, hxa, hxw, hxp⟩, hldx, _⟩ := aM.at (aM.same (E := cL) cB hn sSX) (by decide) (dI hlt)
  have w0 : IntKind.i64.wrap ((i : Int) + 1) = ((i + 1 : Nat) : Int) := by rw [wrap_i64 (by omega) (by omega)]; omega
  refine aD (aU (aD (aP ?_)))
  simp only [↓aH,aJ,rE,↓reduceIte, rA, p1, p4, aA, aB, kI gbX, aG, hiax, hldx]
  refine dC ?_
  intro W1 v1' k1' h1'
  refine dU (b := X.nx) (by simp only [↓aH,aJ,rE,↓reduceIte, rA]) (by simp only [↓aH,aJ,rE,↓reduceIte, rA]; exact bK _) h1' rfl rfl ?_
  intro W v2 k2 h2
  simp only [↓aH,aJ,rE,↓reduceIte, rA]
  have sXW : Same X W := v2.same v1' (Af _)
  have lxW : X.nx < W.nx := by omega
  refine aD (aJ8 rfl (by simp only [↓aH,aJ,rE,↓reduceIte, rA]) h2 lxW (hxa.same sXW) (hxw.same sXW) (hxp.same sXW) t1 t2 t3 ?_)
  intro F' Y2 r1 r2 r3 hk sY2 hnb i1' i2' i3' hbk hdj hwr
  have q1 : aC 1 F' = .ptr S.nx 0 := (hk 1 (by omega)).trans (by simp only [↓aH,aJ,rE,↓reduceIte, rA, p1])
  have q2 : aC 2 F' = .ptr S1.nx 0 := (hk 2 (by omega)).trans (by simp only [↓aH,aJ,rE,↓reduceIte, rA, p2])
  have q3 : aC 3 F' = .ptr (S2.nx + 7) 0 := (hk 3 (by omega)).trans (by simp only [↓aH,aJ,rE,↓reduceIte, rA, p3])
  have q4 : aC 4 F' = .int .i64 (i : Int) := (hk 4 (by omega)).trans (by simp only [↓aH,aJ,rE,↓reduceIte, rA, p4])
  have q5 : aC 5 F' = .ptr X.nx 0 := (hk 5 (by omega)).trans (by simp only [↓aH,aJ,rE,↓reduceIte, rA])
  clear hk p1 p2 p3 p4
  have nY2 := sY2.1
  have old : ∀ c, c < X.nx → Y2.h.get c = X.h.get c := fun c hc => (sY2.2 c (by omega) (by omega)).trans (sXW.2 c hc)
  have obY := (old _ (show S2.nx + 7 < X.nx by omega)).trans hob
  have hgY : gN 6 Z Y2 pv i cs := hg.move (by omega) fun c hc => old c (hg.blk hc).2.1
  have hBY : kO Y2 (fun c => Z.nx ≤ c ∧ aQ pv ≠ some c ∧ Wr Y2 c) cs (g.nodes.take i) := hB.move (by omega) fun c hc hP => ⟨old c hc, hP.1, hP.2.1, hP.2.2.eq (old c hc)⟩
  have heY : vN Y2 (fun c => W.nx ≤ c ∧ Wr Y2 c) [.int .i64 (nodeAt g i).kind, .int .i64 (nodeAt g i).player, .int .i64 (nodeAt g i).info, r1, r2, r3] (nodeAt g i) := ⟨r1, r2, r3, rfl, i1', i2', i3', fun c hc => ⟨hbk c hc, hwr c hc⟩⟩
  refine aP ?_
  simp only [↓aH,aJ,rE,↓reduceIte, rA, q3, q5, aA, aB, kI obY, ldN hnb]
  refine iO (aC7 (k := .int .i64 (nodeAt g i).kind) (p := .int .i64 (nodeAt g i).player) (f := .int .i64 (nodeAt g i).info) (xa := r1) (xw := r2) (xp := r3) (by simp only [↓aH,aJ,rE,↓reduceIte, rA])) ?_
  intro U2 u1 m1 g1
  obtain ⟨pv', U', eA, gA, sA, nA, rA, bA⟩ := gN.appB (k := 6) (m := 1) (bytes := 96) (S0 := ⟨U2.h, Z.nx⟩) (show gN 6 ⟨U2.h, Z.nx⟩ U2 pv i cs from hgY.step u1) ⟨by show Z.nx ≤ U2.nx; omega, fun _ _ => rfl⟩ rfl (aN0 g1) rfl (by omega) (by unfold room; omega) (by unfold room; omega)
  try simp only [↓aH,aJ,rE,↓reduceIte, rA]
  refine fX (fun call => by simp only [↓aH,aJ,rE,↓reduceIte, rA, fU]; exact eA) ?_
  have hoff := hgY.off obY
  have obU := (rA _ (by omega) hoff).trans ((u1.2 _ (by omega)).trans obY)
  have hcl := gA.cells
  simp only [↓aH,aJ,rE,↓reduceIte, rA, q3, aA, aB]
  refine fX (fun call => by simp only [↓aH,aJ,rE,↓reduceIte, rA, dW, hcl, aE]; exact stc (cs := [.int .i64 g.players, pv, jv]) (p := 1) (S := U') obU (by simp)) ?_
  simp only [↓aH,aJ,rE,↓reduceIte, rA]
  refine aP ?_
  simp only [↓sU,sD,rE,↓reduceIte,rA, q4, w0]
  have fin : ∀ c, c ≠ S2.nx + 7 → c < Y2.nx → aQ pv ≠ some c → (U'.h.set (S2.nx + 7) (some (.cells ([.int .i64 g.players, pv, jv].set 1 pv') false 0))).get c = Y2.h.get c := fun c h1 h2 h3 => by
   rw [T.get_set, if_neg h1, rA c (by omega) h3, u1.2 c h2]
  refine ⟨k - 1, by omega, rfl, by show Z.nx ≤ U'.nx; omega, fun c hc hne => (fin c hne (by omega) fun e => by have := (hgY.blk e).1; omega).trans ((old c (by omega)).trans (hR c hc hne)), i + 1, pv', _, by omega, by simp only; rw [T.get_set, if_pos rfl]; rfl, gN.move (S := U') (by exact gA) (Af _) fun c hc => ?_, ?_, hD.push (by rw [hB.1, Bs, Nat.min_eq_left (Nat.le_of_lt hlt)]) hdj, by refine ⟨?_,?_,?_,?_⟩<;>simp only [↓sU,sD,rE,↓reduceIte,rA,q1,q2,q3]⟩
  ·simp only
   rw [T.get_set, if_neg (by rw [bA] at hc; cases hc; omega)]
  ·rw [Cl, dI hlt]
   refine kO.push (hBY.move (by show Y2.nx ≤ U'.nx; omega) fun c hc hP => have e := fin c (by have := hP.1; omega) hc hP.2.1; ⟨e, hP.1, fun e => by rw [bA] at e; cases e; omega, hP.2.2.eq e⟩) (heY.move (by show Y2.nx ≤ U'.nx; omega) fun c hc hP => have e := fin c (by have := hP.1; omega) hc (fun e => by have := hP.1; have := (hg.blk e).2.1; omega); ⟨e, by have := hP.1; omega, fun e => by rw [bA] at e; cases e; omega, hP.2.eq e⟩)
 rintro o ⟨F, inr⟩ X ⟨rfl, q0, nX, hR, i, pv, cs, hik, hob, hg, hB, hD, p1, p2, p3, p4⟩
 simp only at q0 p1 p2 p3 p4
 subst q0
 obtain rfl : i = g.nodes.length := by omega
 rw [List.take_length] at hB
 have rbX := (hR S1.nx (by omega) (by omega)).trans rbZ
 have sSX : Same S X := ⟨Al sSZ.1 nX, fun c hc => (hR c (by have := sSZ.1; omega) (by omega)).trans (sSZ.2 c hc)⟩
 have iX : aM 2 dB X jv g.infos := aM.moveB iZ nX (fun c hc => hR c (hjl c hc) (hjb c hc)) fun _ _ h => h
 try simp only [↓aH,aJ,rE,↓reduceIte, rA]
 refine cF ?_
 simp only [↓aH,aJ,rE,↓reduceIte, rA, p2, p3, ld3 hob]
 refine dU (b := S1.nx) (cs' := [.int .i64 g.players, pv, jv]) (by simp only [↓aH,aJ,rE,↓reduceIte, rA, p2]) (by simp only [↓aH,aJ,rE,↓reduceIte, rA]; exact bK _) rbX rfl rfl ?_
 intro X' x' n' g'
 simp only [↓aH,aJ,rE,↓reduceIte, rA]
 refine bD ?_
 have sX' : Same S X' := x'.same sSX (by omega)
 have nX' := x'.1
 have gX' : gN 6 Z X' pv g.nodes.length cs := hg.move nX' fun c hc => x'.2 c (hg.blk hc).2.1 (by have := (hg.blk hc).1; omega)
 have bX' : kO X' (fun c => Z.nx ≤ c ∧ aQ pv ≠ some c ∧ Wr X' c) cs g.nodes := hB.move nX' fun c hc hP => have e := x'.2 c hc (by have := hP.1; omega); ⟨e, hP.1, hP.2.1, hP.2.2.eq e⟩
 have jX' : aM 2 dB X' jv g.infos := aM.moveB iX nX' (fun c hc => x'.2 c (Ae (hjl c hc) nX) (by rcases k1 c hc with h | h <;> omega)) fun _ _ h => h
 simp only [↓aH,aJ,rE,↓reduceIte, rA, p2, eZ, ld3 g']
 exact ⟨sX', pv, jv, Z.nx, cs, rfl, by have := sSZ.1; omega, gX', bX'.move (Af _) (fun c _ hP => ⟨rfl, by have := sSZ.1; omega, hP.2⟩), hD, jX'⟩
end Go.Ev.Gl
