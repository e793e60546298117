import Derived.Test.YtoojnpjgnnpllaaGl1
set_option maxHeartbeats 4000000
set_option linter.unusedSimpArgs false
set_option linter.unusedVariables false
namespace Go.Ev.Gl
variable {fns : T cA}
def kI (last : Option Nat) (m : Nat) : Bool :=
 match last with
 | none => true
 | some i => Nat.testBit m i
def aLZ (W : Nat → Prop) (base : Nat) (v : AV) : Prop := ∃ b off, v = .ptr b off ∧ b < base ∧ ¬ W b
def aDm (W : Nat → Prop) (base : Nat) (q : wN) (F : Fr) : Prop := ∃ agg n x, q = .ld agg n x ∧ aLZ W base (x.val F)
def aFc (W : Nat → Prop) (base : Nat) (S S' : St) : Prop := S.nx ≤ S'.nx ∧ ∀ b, b < base → ¬ W b → S'.h.get b = S.h.get b
def fH (fns : T cA) (W : Nat → Prop) (h0 : T AB) (base : Nat) : List AO → Nat → Fr → St → List gI → Option Nat → (Fr → St → List gI → Prop) → Prop
 | [], _, F, S, ps, _, Q => Q F S ps
 | ⟨d, op, g, m⟩ :: l, i, F, S, ps, last, Q =>
  if dW g F = true then
   match op with
   | .q q => kE (gP q F (bO (dG q) h0 S.h)) fun v => (dG q = true → cN v v = true ∧ aDm W base q F) ∧ fH fns W h0 base l (i + 1) (cG d F v) S ps last Q
   | .a a => kE (sN a F (base + i)) fun r => fH fns W h0 base l (i + 1) (cG d F r.1) S (⟨i, base + i, r.2⟩ :: ps) last Q
   | .x (.call f args) => kI last m = true ∧ iQ fns (f.val F) (cT args F) ⟨(cE m ps S.h).2, S.nx⟩ fun v S1 => (Same ⟨(cE m ps S.h).2, S.nx⟩ S1 ∨ aFc W base ⟨(cE m ps S.h).2, S.nx⟩ S1) ∧ fH fns W h0 base l (i + 1) (cG d F v) S1 (cE m ps S.h).1 (some i) Q
   | .x (.inv tbl r args) => kI last m = true ∧ ∃ t f u, r.val F = .iface t u ∧ tT t tbl = some (f, none) ∧ iQ fns (.fn f [u] []) (cT args F) ⟨(cE m ps S.h).2, S.nx⟩ fun v S1 => Same ⟨(cE m ps S.h).2, S.nx⟩ S1 ∧ fH fns W h0 base l (i + 1) (cG d F v) S1 (cE m ps S.h).1 (some i) Q
   | .x x => kI last m = true ∧ ∃ v S1, (∀ call, xP x call F ⟨(cE m ps S.h).2, S.nx⟩ = some (v, S1)) ∧ aFc W base ⟨(cE m ps S.h).2, S.nx⟩ S1 ∧ fH fns W h0 base l (i + 1) (cG d F v) S1 (cE m ps S.h).1 (some i) Q
  else fH fns W h0 base l (i + 1) (cG d F .undef) S ps last Q
structure DOk (W : Nat → Prop) (h0 : T AB) (base : Nat) (D : DS) : Prop where
 cur : ∀ b, b < base → ¬ W b → D.S.h.get b = h0.get b
 nx : base ≤ D.S.nx
 chain : ∀ e ∈ D.hs, ∀ b, b < base → ¬ W b → e.2.2.get b = h0.get b
 lds : ∀ l ∈ D.ls, cN l.v l.v = true ∧ aDm W base l.q l.F ∧ gP l.q l.F h0 = some l.v
 pend : ∀ p ∈ D.ps, base ≤ p.id
theorem aDm.ev {W : Nat → Prop} {base : Nat} {q : wN} {F : Fr} (h : aDm W base q F) {h0 h1 : T AB} (hh : ∀ b, b < base → ¬ W b → h1.get b = h0.get b) : gP q F h1 = gP q F h0 := by
 obtain ⟨agg, n, x, rfl, b, off, hx, hb, hw⟩ := h
 rw [zR, zR, hx]
 have e : cP h1 b = cP h0 b := by unfold cP; rw [hh b hb hw]
 simp only [fK, oO, vH, mX, e]
theorem aAa {base b : Nat} (hb : b < base) {m : Nat} : ∀ {ps : List gI} {h : T AB}, (∀ p ∈ ps, base ≤ p.id) → (cE m ps h).2.get b = h.get b
 | [], h, _ => rfl
 | p :: ps, h, hp => by
  have h1 := hp p (by simp)
  have h2 : ∀ q ∈ ps, base ≤ q.id := fun q hq => hp q (by simp [hq])
  unfold cE
  cases Nat.testBit m p.i with
  | true => rw [aG, aAa hb h2, T.get_set, if_neg (by omega)]
  | false => rw [aM]; exact aAa hb h2
theorem zC {base : Nat} {m : Nat} : ∀ {ps : List gI} {h : T AB}, (∀ p ∈ ps, base ≤ p.id) → ∀ p ∈ (cE m ps h).1, base ≤ p.id
 | [], h, _, p, hp => by cases hp
 | p :: ps, h, hq, r, hr => by
  have h2 : ∀ q ∈ ps, base ≤ q.id := fun q hx => hq q (by simp [hx])
  unfold cE at hr
  cases ht : Nat.testBit m p.i with
  | true => rw [ht, aG] at hr; exact zC h2 r hr
  | false =>
   rw [ht, aM] at hr
   rcases List.mem_cons.1 hr with rfl | hr
   ·exact hq r (by simp)
   ·exact zC h2 r hr
theorem aDb {W : Nat → Prop} {h0 : T AB} {base : Nat} {l : jJ} (h : cN l.v l.v = true ∧ aDm W base l.q l.F ∧ gP l.q l.F h0 = some l.v) : ∀ {hs : List (Nat × Nat × T AB)} {h1 : T AB}, (∀ e ∈ hs, ∀ b, b < base → ¬ W b → e.2.2.get b = h0.get b) → (∀ b, b < base → ¬ W b → h1.get b = h0.get b) → eG l hs h1 = true
 | [], h1, _, hh => by
  show lM l.v (gP l.q l.F h1) = true
  rw [h.2.1.ev hh, h.2.2]; exact h.1
 | (i, m, h') :: r, h1, hs, hh => by
  have e1 : lM l.v (gP l.q l.F h1) = true := by rw [h.2.1.ev hh, h.2.2]; exact h.1
  have e2 : eG l r h' = true := aDb h (fun e he => hs e (by simp [he])) (hs (i, m, h') (by simp))
  unfold eG
  rw [e1, e2]
  cases Nat.testBit l.mask i <;> cases Nat.testBit m l.i <;> rfl
theorem lE {h0 : T AB} {hs : List (Nat × Nat × T AB)} : ∀ {ls : List jJ}, (∀ l ∈ ls, eG l hs h0 = true) → fC h0 hs ls = true
 | [], _ => rfl
 | l :: ls, h => by rw [rZ, h l (by simp), aG]; exact lE fun l' hl => h l' (by simp [hl])
theorem aKK {d : Option Nat} {tbl : List (Nat × Nat × Option (Bool × Nat))} {recv : cH} {args : List cH} {m i base : Nat} {l : List AO} {D : DS} {Q : DS → Prop} {t f : Nat} {u : AV} (hr : recv.val D.F = .iface t u) (hf : tT t tbl = some (f, none)) (h : vT fns (⟨d, .x (.call (.c (.fn f [u] [])) args), none, m⟩ :: l) i base D Q) : vT fns (⟨d, .x (.inv tbl recv args), none, m⟩ :: l) i base D Q := by
 obtain ⟨n, D', e1, e2⟩ := h
 refine ⟨n, D', ?_, e2⟩
 have e : pG ⟨d, .x (.inv tbl recv args), none, m⟩ i base (ev fns n).call D = pG ⟨d, .x (.call (.c (.fn f [u] [])) args), none, m⟩ i base (ev fns n).call D := by
  show bO (iK D.hs m) (aU (xP (.inv tbl recv args) (ev fns n).call D.F ⟨(cE m D.ps D.S.h).2, D.S.nx⟩) _) none = bO (iK D.hs m) (aU (xP (.call (.c (.fn f [u] [])) args) (ev fns n).call D.F ⟨(cE m D.ps D.S.h).2, D.S.nx⟩) _) none
  rw [aKo hr hf]
 show aU (pG ⟨d, .x (.inv tbl recv args), none, m⟩ i base (ev fns n).call D) _ = _
 rw [e]
 exact e1
theorem kO {W : Nat → Prop} {h0 : T AB} {base : Nat} {Q : Fr → St → List gI → Prop} : ∀ {ops : List AO} {i : Nat} {D : DS} {last : Option Nat}, DOk W h0 base D → D.hs.head?.map (·.1) = last → fH fns W h0 base ops i D.F D.S D.ps last Q →
  vT fns ops i base D fun D' => Q D'.F D'.S D'.ps ∧ DOk W h0 base D'
 | [], i, D, last, hD, _, hr => by rw [jQ]; exact ⟨hr, hD⟩
 | ⟨d, op, g, m⟩ :: l, i, D, last, hD, hlast, hr => by
  have hlk : kI last m = true → iK D.hs m = true := fun h => by
   subst hlast
   cases hh : D.hs with
   | nil => rfl
   | cons e r => rw [hh] at h; exact h
  unfold fH at hr
  by_cases hw : dW g D.F = true
  ·rw [if_pos hw] at hr
   have lift : vT fns (⟨d, op, none, m⟩ :: l) i base D (fun D' => Q D'.F D'.S D'.ps ∧ DOk W h0 base D') → vT fns (⟨d, op, g, m⟩ :: l) i base D (fun D' => Q D'.F D'.S D'.ps ∧ DOk W h0 base D') := by
    rintro ⟨n, D', e1, e2⟩
    refine ⟨n, D', ?_, e2⟩
    have : pG ⟨d, op, g, m⟩ i base (ev fns n).call D = pG ⟨d, op, none, m⟩ i base (ev fns n).call D := by
     show bO (dW g D.F) _ _ = bO true _ _
     rw [hw]
     cases op <;> rfl
    show aU (pG ⟨d, op, g, m⟩ i base (ev fns n).call D) _ = _
    rw [this]; exact e1
   apply lift
   cases op with
   | q q =>
    obtain ⟨v, hv, hs, hr⟩ := hr
    rw [iR]
    cases hq : dG q with
    | false =>
     rw [hq, aM] at hv
     refine ⟨v, hv, ?_⟩
     simp only [aM]
     exact kO (D := ⟨cG d D.F v, D.S, D.ps, D.hs, D.ls⟩) ⟨hD.cur, hD.nx, hD.chain, hD.lds, hD.pend⟩ hlast hr
    | true =>
     rw [hq, aG] at hv
     obtain ⟨hs1, hs2⟩ := hs hq
     refine ⟨v, by rw [hs2.ev hD.cur]; exact hv, ?_⟩
     simp only [aG]
     refine kO (D := ⟨cG d D.F v, D.S, D.ps, D.hs, ⟨q, D.F, v, i, m⟩ :: D.ls⟩) ⟨hD.cur, hD.nx, hD.chain, fun l' hl => ?_, hD.pend⟩ hlast hr
     rcases List.mem_cons.1 hl with rfl | hl
     ·exact ⟨hs1, hs2, hv⟩
     ·exact hD.lds l' hl
   | a a =>
    obtain ⟨r, hv, hr⟩ := hr
    rw [aDr]
    refine ⟨r, hv, kO (D := ⟨cG d D.F r.1, D.S, ⟨i, base + i, r.2⟩ :: D.ps, D.hs, D.ls⟩) ⟨hD.cur, hD.nx, hD.chain, hD.lds, fun p hp => ?_⟩ hlast hr⟩
    rcases List.mem_cons.1 hp with rfl | hp
    ·exact Nat.le_add_right _ _
    ·exact hD.pend p hp
   | x x =>
    have next : ∀ (v : AV) (S1 : St), aFc W base ⟨(cE m D.ps D.S.h).2, D.S.nx⟩ S1 → DOk W h0 base ⟨cG d D.F v, S1, (cE m D.ps D.S.h).1, (i, m, S1.h) :: D.hs, D.ls⟩ := fun v S1 hS => by
     have hc : ∀ b, b < base → ¬ W b → S1.h.get b = h0.get b := fun b hb hw => by
      rw [hS.2 b hb hw]
      show (cE m D.ps D.S.h).2.get b = _
      rw [aAa hb hD.pend]; exact hD.cur b hb hw
     refine ⟨hc, Nat.le_trans hD.nx hS.1, fun e he => ?_, hD.lds, zC hD.pend⟩
     rcases List.mem_cons.1 he with rfl | he
     ·exact hc
     ·exact hD.chain e he
    have other : (∀ f args, x ≠ .call f args) → (∀ tbl r args, x ≠ .inv tbl r args) → (kI last m = true ∧ ∃ v S1, (∀ call, xP x call D.F ⟨(cE m D.ps D.S.h).2, D.S.nx⟩ = some (v, S1)) ∧ aFc W base ⟨(cE m D.ps D.S.h).2, D.S.nx⟩ S1 ∧ fH fns W h0 base l (i + 1) (cG d D.F v) S1 (cE m D.ps D.S.h).1 (some i) Q) → vT fns (⟨d, .x x, none, m⟩ :: l) i base D (fun D' => Q D'.F D'.S D'.ps ∧ DOk W h0 base D') := by
     rintro _ _ ⟨h1, v, S1, h2, h3, h4⟩
     exact kL (hlk h1) h2 (kO (D := ⟨cG d D.F v, S1, (cE m D.ps D.S.h).1, (i, m, S1.h) :: D.hs, D.ls⟩) (next v S1 h3) rfl h4)
    cases x with
    | call f args =>
     obtain ⟨h1, n, v, S1, h2, h3, h4⟩ := hr
     refine aCn (hlk h1) ⟨n, v, S1, h2, ?_⟩
     exact kO (D := ⟨cG d D.F v, S1, (cE m D.ps D.S.h).1, (i, m, S1.h) :: D.hs, D.ls⟩) (next v S1 (h3.elim (fun h3 => ⟨h3.1, fun b hb _ => h3.2 b (Nat.lt_of_lt_of_le hb hD.nx)⟩) id)) rfl h4
    | inv tbl r args =>
     obtain ⟨h1, t, f, u, hu, hf, n, v, S1, h2, h3, h4⟩ := hr
     refine aKK hu hf (aCn (hlk h1) ⟨n, v, S1, h2, ?_⟩)
     exact kO (D := ⟨cG d D.F v, S1, (cE m D.ps D.S.h).1, (i, m, S1.h) :: D.hs, D.ls⟩) (next v S1 ⟨h3.1, fun b hb _ => h3.2 b (Nat.lt_of_lt_of_le hb hD.nx)⟩) rfl h4
    | _ => exact other (fun _ _ h => by cases h) (fun _ _ _ h => by cases h) hr
  ·rw [if_neg hw] at hr
   obtain ⟨n, D', e1, e2⟩ := kO (i := i + 1) (D := ⟨cG d D.F .undef, D.S, D.ps, D.hs, D.ls⟩) (last := last) ⟨hD.cur, hD.nx, hD.chain, hD.lds, hD.pend⟩ hlast hr
   refine ⟨n, D', ?_, e2⟩
   have : pG ⟨d, op, g, m⟩ i base (ev fns n).call D = some ⟨cG d D.F .undef, D.S, D.ps, D.hs, D.ls⟩ := by
    show bO (dW g D.F) _ _ = _
    rw [show dW g D.F = false by simpa using hw]; rfl
   show aU (pG ⟨d, op, g, m⟩ i base (ev fns n).call D) _ = _
   rw [this]; exact e1
theorem yS (W : Nat → Prop) {ops : List AO} {A : bT} {S : St} {Q : Out → bT → St → Prop} (h : fH fns W S.h S.nx ops 0 A.F ⟨S.h, S.nx + ops.length⟩ [] none fun F S' ps => Q .normal ⟨F, A.inr⟩ ⟨(cE (2 ^ ops.length - 1) ps S'.h).2, S'.nx⟩) : lZ fns (.drw ops) A S Q := by
 refine rT ?_
 obtain ⟨n, D', e1, e2, e3⟩ := kO (fns := fns) (i := 0) (D := ⟨A.F, ⟨S.h, S.nx + ops.length⟩, [], [], []⟩) (last := none) ⟨fun _ _ _ => rfl, Nat.le_add_right _ _, fun e he => (by cases he), fun l hl => (by cases hl), fun p hp => (by cases hp)⟩ rfl h
 exact ⟨n, D', e1, lE fun l hl => aDb (e3.lds l hl) (fun e he => e3.chain e (List.mem_reverse.1 he)) (fun _ _ _ => rfl), e2⟩
def aIL (fns : T cA) (W : Nat → Prop) (h0 : T AB) (base : Nat) (x : Option AV) (ld : Bool) (old : Prop) (d : Option Nat) (l : List AO) (i : Nat) (F : Fr) (S : St) (ps : List gI) (last : Option Nat) (Q : Fr → St → List gI → Prop) : Prop := kE x fun v => (ld = true → cN v v = true ∧ old) ∧ fH fns W h0 base l i (cG d F v) S ps last Q
def aFm (fns : T cA) (W : Nat → Prop) (h0 : T AB) (base : Nat) (x : Option (AV × AB)) (d : Option Nat) (l : List AO) (i : Nat) (F : Fr) (S : St) (ps : List gI) (last : Option Nat) (Q : Fr → St → List gI → Prop) : Prop := kE x fun r => fH fns W h0 base l (i + 1) (cG d F r.1) S (⟨i, base + i, r.2⟩ :: ps) last Q
section
variable {W : Nat → Prop} {h0 : T AB} {base : Nat} {d : Option Nat} {m i : Nat} {l : List AO} {F : Fr} {S : St} {ps : List gI} {last : Option Nat} {Q : Fr → St → List gI → Prop}
theorem aEP : fH fns W h0 base [] i F S ps last Q ↔ Q F S ps := Iff.rfl
theorem aIA {q : wN} : fH fns W h0 base (⟨d, .q q, none, m⟩ :: l) i F S ps last Q ↔ aIL fns W h0 base (gP q F (bO (dG q) h0 S.h)) (dG q) (aDm W base q F) d l (i + 1) F S ps last Q := by
 rw [fH, if_pos (show dW none F = true from rfl)]; rfl
theorem aBA {v : AV} {ld : Bool} {old : Prop} : aIL fns W h0 base (some v) ld old d l i F S ps last Q ↔ (ld = true → cN v v = true ∧ old) ∧ fH fns W h0 base l i (cG d F v) S ps last Q := by unfold aIL; rw [dJ]
theorem aIB {a : tE} : fH fns W h0 base (⟨d, .a a, none, m⟩ :: l) i F S ps last Q ↔ aFm fns W h0 base (sN a F (base + i)) d l i F S ps last Q := by
 rw [fH, if_pos (show dW none F = true from rfl)]; rfl
theorem nM {r : AV × AB} : aFm fns W h0 base (some r) d l i F S ps last Q ↔ fH fns W h0 base l (i + 1) (cG d F r.1) S (⟨i, base + i, r.2⟩ :: ps) last Q := by unfold aFm; rw [dJ]
theorem aCP {f : cH} {args : List cH} (h : kI last m = true) (hw : iQ fns (f.val F) (cT args F) ⟨(cE m ps S.h).2, S.nx⟩ fun v S1 => Same ⟨(cE m ps S.h).2, S.nx⟩ S1 ∧ fH fns W h0 base l (i + 1) (cG d F v) S1 (cE m ps S.h).1 (some i) Q) : fH fns W h0 base (⟨d, .x (.call f args), none, m⟩ :: l) i F S ps last Q := by
 rw [fH, if_pos (show dW none F = true from rfl)]; exact ⟨h, aW hw fun v S1 h => ⟨.inl h.1, h.2⟩⟩
theorem jG {f : cH} {args : List cH} (h : kI last m = true) (hw : iQ fns (f.val F) (cT args F) ⟨(cE m ps S.h).2, S.nx⟩ fun v S1 => aFc W base ⟨(cE m ps S.h).2, S.nx⟩ S1 ∧ fH fns W h0 base l (i + 1) (cG d F v) S1 (cE m ps S.h).1 (some i) Q) : fH fns W h0 base (⟨d, .x (.call f args), none, m⟩ :: l) i F S ps last Q := by
 rw [fH, if_pos (show dW none F = true from rfl)]; exact ⟨h, aW hw fun v S1 h => ⟨.inr h.1, h.2⟩⟩
theorem uF {n : Nat} {x v : cH} {S1 : St} (h : kI last m = true) (he : aU (v.val F).cells (fun cs => oH (x.val F) n cs ⟨(cE m ps S.h).2, S.nx⟩) = some (.undef, S1)) (ho : aFc W base ⟨(cE m ps S.h).2, S.nx⟩ S1) (hr : fH fns W h0 base l (i + 1) (cG d F .undef) S1 (cE m ps S.h).1 (some i) Q) : fH fns W h0 base (⟨d, .x (.st n x v), none, m⟩ :: l) i F S ps last Q := by
 unfold fH; rw [if_pos (show dW none F = true from rfl)]; exact ⟨h, _, S1, fun call => he, ho, hr⟩
theorem aIV {op : AOp} {s : Nat} {b : Bool} : fH fns W h0 base (⟨d, op, some (s, b), m⟩ :: l) i F S ps last Q ↔ if isB (aC s F) b = true then fH fns W h0 base (⟨d, op, none, m⟩ :: l) i F S ps last Q else fH fns W h0 base l (i + 1) (cG d F .undef) S ps last Q := by
 conv => lhs; unfold fH
 rw [show dW (some (s, b)) F = isB (aC s F) b from rfl]
 split
 ·conv => rhs; unfold fH
  rw [if_pos (show dW none F = true from rfl)]
 ·rfl
theorem aGE {agg : Bool} {n : Nat} {x : cH} : aDm W base (.ld agg n x) F ↔ aLZ W base (x.val F) := by
 constructor
 ·rintro ⟨_, _, _, h, h2⟩; cases h; exact h2
 ·exact fun h => ⟨_, _, _, rfl, h⟩
theorem aFl {b off : Nat} : aLZ W base (.ptr b off) ↔ b < base ∧ ¬ W b := by
 constructor
 ·rintro ⟨_, _, h, h2⟩; cases h; exact h2
 ·exact fun h => ⟨_, _, rfl, h⟩
end
theorem stV : type_of% (And.intro @aEP (And.intro @aIA (And.intro @aIB (And.intro @aIV (@aAm))))) := And.intro @aEP (And.intro @aIA (And.intro @aIB (And.intro @aIV (@aAm))))
theorem stW : type_of% (And.intro @aBA (And.intro @nM (And.intro @aGE (And.intro @aFl (And.intro @bX (And.intro (@List.length_cons AO) (And.intro (@List.length_nil AO) (And.intro (@List.length_cons AV) (And.intro (@List.length_nil AV) (And.intro (@List.length_cons Nat) (@List.length_nil Nat))))))))))) := And.intro @aBA (And.intro @nM (And.intro @aGE (And.intro @aFl (And.intro @bX (And.intro (@List.length_cons AO) (And.intro (@List.length_nil AO) (And.intro (@List.length_cons AV) (And.intro (@List.length_nil AV) (And.intro (@List.length_cons Nat) (@List.length_nil Nat))))))))))
theorem sU : type_of% (And.intro aJ stV) := And.intro aJ stV
theorem sD : type_of% (And.intro aH stW) := And.intro aH stW
end Go.Ev.Gl
namespace Go.Ev.Gl
variable {fns : T cA}
theorem aHQ (e : rC) {a b : Int} (hb : b ≠ 0) : mW .quo e (.int .i64 a) (.int .i64 b) = some (.int .i64 (IntKind.i64.wrap (a.tdiv b))) := by
 show dN .quo .i64 a .i64 b = _
 unfold dN
 rw [show fD .quo = false from rfl, aM, gF, aG]
 show aJj .i64 a b = _
 unfold aJj
 split
 ·rename_i m n
  have h0 : Nat.beq n 0 = false := by
   rw [Bool.eq_false_iff]; intro h; rw [Nat.beq_eq] at h; subst h; exact hb rfl
  rw [h0, aM, nat_eq]
  rfl
 ·have h0 : ieq b (.ofNat 0) = false := by
   rw [Bool.eq_false_iff]; intro h; rw [lD] at h; exact hb (by simpa using h)
  rw [h0, aM, pN]
theorem aH1 (e : rC) {a b : Int} (ha : 0 ≤ a) (ha2 : a ≤ 9223372036854775807) (hb : 0 < b) : mW .quo e (.int .i64 a) (.int .i64 b) = some (.int .i64 (a / b)) := by
 rw [aHQ e (by omega), Int.tdiv_eq_ediv_of_nonneg ha]
 rw [wrap_i64]
 ·have := Int.ediv_nonneg ha (Int.le_of_lt hb); omega
 ·have := Int.ediv_le_self b ha; omega
theorem aJb (a : Int) : unV .neg (.int .i64 a) = some (.int .i64 (IntKind.i64.wrap (-a))) := by
 show some (AV.int .i64 (aE8 .i64 (.ofNat 0) a)) = _
 rw [xH]
 congr 3
 show (0 : Int) - a = -a
 omega
def mx (a b : Int) : Int := if b ≤ a then a else b
theorem aL4 (l : List cH) (F : Fr) (h : T AB) : gP (.minmax true l) F h = lU true (cT l F) := rfl
theorem aKH (v : AV) (l : List AV) : lU true (v :: l) = jP true l v := rfl
theorem aLk (v : AV) : jP true [] v = some v := rfl
theorem aLT (a b : Int) (l : List AV) : jP true (.int .i64 b :: l) (.int .i64 a) = jP true l (.int .i64 (mx a b)) := by
 show bO (keq .i64 .i64) (jP true l (.int .i64 (bO true (bO (ile b a) a b) _))) none = _
 rw [gF, aG, aG]
 congr 2
 unfold mx
 rw [nS]
 by_cases h : b ≤ a
 ·rw [if_pos h, decide_eq_true h]; rfl
 ·rw [if_neg h, decide_eq_false h]; rfl
end Go.Ev.Gl
namespace Go.Ev.Gl
variable {fns : T cA}
end Go.Ev.Gl
namespace Go.Ev.Gl
variable {fns : T cA}
theorem aGG (t : Nat) (x : cH) (F : Fr) (id : Nat) : sN (.box t x) F id = aU (x.val F).cells fun cs => some (.ptr id 0, .cells cs false 0) := rfl
theorem uJ (t : Nat) (cs : List AV) (F : Fr) (id : Nat) : sN (.alloc t cs) F id = some (.ptr id 0, .cells cs false 0) := rfl
theorem aEX (f : Nat) (first cap : List cH) (F : Fr) (h : T AB) : gP (.mkFunc f first cap) F h = some (.fn f (cT first F) (cT cap F)) := rfl
end Go.Ev.Gl
namespace Go.Ev.Gl
variable {fns : T cA}
end Go.Ev.Gl
namespace Go.Ev.Gl
variable {fns : T cA}
theorem bK (cs : List AV) : (AV.agg cs).cells = some cs := rfl
theorem aFu (a b c d : Nat) (e : Bool) : (AV.sl a b c d e).cells = some [.sl a b c d e] := rfl
theorem aB (i : Nat) (x : cH) (F : Fr) (h : T AB) : gP (.faddr i x) F h = vV (x.val F) i := rfl
theorem aA (b o i : Nat) : vV (.ptr b o) i = some (.ptr b (o + i)) := rfl
theorem aN (i : Nat) (x : cH) : dG (.faddr i x) = false := rfl
theorem lO (z : List AV) (ps : List (Nat × Nat × cH)) : dG (.build z ps) = false := rfl
theorem eZ (a : Nat) (agg : Bool) (n : Nat) (rs : List RV) (F : Fr) (h : T AB) : results (.cell a agg n :: rs) F h = aU (fK (aC a F) agg n h) fun v => aU (results rs F h) fun vs => some (v :: vs) := rfl
section
variable {h : T AB} {b : Nat} {x y z : AV} {o : Bool} {s : Nat}
theorem ld3 (hb : h.get b = some (.cells [x, y, z] o s)) : fK (.ptr b 0) true 3 h = some (.agg [x, y, z]) := by
 simp only [fK, oO, aG, vH, cP, hb, aF, nP]; rfl
end
theorem yB {S : St} {b n : Nat} {cs cs' : List AV} {o : Bool} {s : Nat} (h : S.h.get b = some (.cells cs o s)) (h1 : cs.length = n) (h2 : cs'.length = n) : oH (.ptr b 0) n cs' S = some (.undef, ⟨S.h.set b (some (.cells cs' o s)), S.nx⟩) := by
 have hp : put cs 0 cs' = some cs' := by
  rw [put_eq, if_pos (by omega)]
  simp [List.drop_of_length_le (show cs.length ≤ cs'.length by omega)]
 simp only [oH, dR, h2, oZ, h, aF, yY, hp]
 rw [show Nat.beq n n = true from Nat.beq_refl n]
 rfl
theorem eY {d t m : Nat} {x : cH} {l : List AO} {F : Fr} {S : St} {Q : Fr → St → Prop} {cs : List AV} (hc : (x.val F).cells = some cs) (h : ∀ S1, Same S S1 → S1.nx = S.nx + 1 → S1.h.get S.nx = some (.cells cs false 0) → qX fns l (cG (some d) F (.ptr S.nx 0)) S1 Q) : qX fns (⟨some d, .a (.box t x), none, m⟩ :: l) F S Q := by
 rw [aAm]
 refine ⟨(.ptr S.nx 0, .cells cs false 0), by rw [aGG, hc]; rfl, h _ (Same.alloc S _) rfl ?_⟩
 simp only
 rw [T.get_set, if_pos rfl]
theorem dD {d t m : Nat} {l : List AO} {F : Fr} {S : St} {Q : Fr → St → Prop} {cs : List AV} (h : ∀ S1, Same S S1 → S1.nx = S.nx + 1 → S1.h.get S.nx = some (.cells cs false 0) → qX fns l (cG (some d) F (.ptr S.nx 0)) S1 Q) : qX fns (⟨some d, .a (.alloc t cs), none, m⟩ :: l) F S Q := by
 rw [aAm]
 refine ⟨(.ptr S.nx 0, .cells cs false 0), rfl, h _ (Same.alloc S _) rfl ?_⟩
 simp only
 rw [T.get_set, if_pos rfl]
theorem eH {n m b s : Nat} {x v : cH} {l : List AO} {F : Fr} {S : St} {Q : Fr → St → Prop} {cs cs' : List AV} {o : Bool} (hx : x.val F = .ptr b 0) (hv : (v.val F).cells = some cs') (hb : S.h.get b = some (.cells cs o s)) (h1 : cs.length = n) (h2 : cs'.length = n)
  (h : ∀ S1, dH b S S1 → S1.nx = S.nx → S1.h.get b = some (.cells cs' o s) → qX fns l F S1 Q) : qX fns (⟨none, .x (.st n x v), none, m⟩ :: l) F S Q := by
 refine fZ (v := .undef) (fun call => ?_) (h ⟨S.h.set b (some (.cells cs' o s)), S.nx⟩ ((dH.refl b S).put _) rfl ?_)
 ·rw [dT, hv, aF, hx]; exact yB hb h1 h2
 ·simp only
  rw [T.get_set, if_pos rfl]
theorem mT (W : Nat → Prop) {ops : List AO} {A : bT} {S : St} {Q : Out → bT → St → Prop} (h : ∀ S1, Same S S1 → fH fns W S.h S.nx ops 0 A.F S1 [] none fun F S' ps => Q .normal ⟨F, A.inr⟩ ⟨(cE (2 ^ ops.length - 1) ps S'.h).2, S'.nx⟩) : lZ fns (.drw ops) A S Q := yS W (h _ (Same.nx S _))
section
variable {W : Nat → Prop} {h0 : T AB} {base : Nat} {d : Option Nat} {m i : Nat} {l : List AO} {F : Fr} {S : St} {last : Option Nat} {Q : Fr → St → List gI → Prop}
theorem gE {f : cH} {args : List cH} (h : kI last m = true) (hw : iQ fns (f.val F) (cT args F) S fun v S1 => Same S S1 ∧ fH fns W h0 base l (i + 1) (cG d F v) S1 [] (some i) Q) : fH fns W h0 base (⟨d, .x (.call f args), none, m⟩ :: l) i F S [] last Q :=
 aCP h hw
end
end Go.Ev.Gl
namespace Go.Ev.Gl
variable {fns : T cA}
end Go.Ev.Gl
namespace Go.Ev.Gl
variable {fns : T cA}
end Go.Ev.Gl
namespace Go.Ev.Gl
variable {fns : T cA}
theorem gO (b : Bool) : unV .not (.bool b) = some (.bool (!b)) := by cases b <;> rfl
end Go.Ev.Gl
namespace Go.Ev.Gl
variable {fns : T cA}
theorem aCC : eF (.int .i64 0) = some 0 := rfl
end Go.Ev.Gl
