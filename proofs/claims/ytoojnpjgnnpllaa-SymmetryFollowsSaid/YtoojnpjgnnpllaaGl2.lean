import Derived.Test.YtoojnpjgnnpllaaGl1
set_option maxHeartbeats 16000000
set_option linter.unusedSimpArgs false
set_option linter.unusedVariables false
namespace Go.Ev.Gl
variable {fns : T eJ}
def jX (last : Option Nat) (m : Nat) : Bool :=
 match last with
 | none => true
 | some i => Nat.testBit m i
def aLu (W : Nat → Prop) (base : Nat) (v : AV) : Prop := ∃ b off, v = .ptr b off ∧ b < base ∧ ¬ W b
def aDC (W : Nat → Prop) (base : Nat) (q : uY) (F : Fr) : Prop := ∃ agg n x, q = .ld agg n x ∧ aLu W base (x.val F)
def aEL (W : Nat → Prop) (base : Nat) (S S' : St) : Prop := S.nx ≤ S'.nx ∧ ∀ b, b < base → ¬ W b → S'.h.get b = S.h.get b
def fJ (fns : T eJ) (W : Nat → Prop) (h0 : T AB) (base : Nat) : List AO → Nat → Fr → St → List gL → Option Nat → (Fr → St → List gL → Prop) → Prop
 | [], _, F, S, ps, _, Q => Q F S ps
 | ⟨d, op, g, m⟩ :: l, i, F, S, ps, last, Q =>
  if eH g F = true then
   match op with
   | .q q => kD (gR q F (bQ (dH q) h0 S.h)) fun v => (dH q = true → cO v v = true ∧ aDC W base q F) ∧ fJ fns W h0 base l (i + 1) (cJ d F v) S ps last Q
   | .a a => kD (rO a F (base + i)) fun r => fJ fns W h0 base l (i + 1) (cJ d F r.1) S (⟨i, base + i, r.2⟩ :: ps) last Q
   | .x (.call f args) => jX last m = true ∧ iM fns (f.val F) (cW args F) ⟨(cD m ps S.h).2, S.nx⟩ fun v S1 => (Same ⟨(cD m ps S.h).2, S.nx⟩ S1 ∨ aEL W base ⟨(cD m ps S.h).2, S.nx⟩ S1) ∧ fJ fns W h0 base l (i + 1) (cJ d F v) S1 (cD m ps S.h).1 (some i) Q
   | .x (.inv tbl r args) => jX last m = true ∧ ∃ t f u, r.val F = .iface t u ∧ aAB t tbl = some (f, none) ∧ iM fns (.fn f [u] []) (cW args F) ⟨(cD m ps S.h).2, S.nx⟩ fun v S1 => Same ⟨(cD m ps S.h).2, S.nx⟩ S1 ∧ fJ fns W h0 base l (i + 1) (cJ d F v) S1 (cD m ps S.h).1 (some i) Q
   | .x x => jX last m = true ∧ ∃ v S1, (∀ call, vV x call F ⟨(cD m ps S.h).2, S.nx⟩ = some (v, S1)) ∧ aEL W base ⟨(cD m ps S.h).2, S.nx⟩ S1 ∧ fJ fns W h0 base l (i + 1) (cJ d F v) S1 (cD m ps S.h).1 (some i) Q
  else fJ fns W h0 base l (i + 1) (cJ d F .undef) S ps last Q
structure DOk (W : Nat → Prop) (h0 : T AB) (base : Nat) (D : DS) : Prop where
 cur : ∀ b, b < base → ¬ W b → D.S.h.get b = h0.get b
 nx : base ≤ D.S.nx
 chain : ∀ e ∈ D.hs, ∀ b, b < base → ¬ W b → e.2.2.get b = h0.get b
 lds : ∀ l ∈ D.ls, cO l.v l.v = true ∧ aDC W base l.q l.F ∧ gR l.q l.F h0 = some l.v
 pend : ∀ p ∈ D.ps, base ≤ p.id
theorem aDC.ev {W : Nat → Prop} {base : Nat} {q : uY} {F : Fr} (h : aDC W base q F) {h0 h1 : T AB} (hh : ∀ b, b < base → ¬ W b → h1.get b = h0.get b) : gR q F h1 = gR q F h0 := by
 obtain ⟨agg, n, x, rfl, b, off, hx, hb, hw⟩ := h
 rw [xZ, xZ, hx]
 have e : cP h1 b = cP h0 b := by unfold cP; rw [hh b hb hw]
 simp only [fH, oD, tV, mS, e]
theorem xY {base b : Nat} (hb : b < base) {m : Nat} : ∀ {ps : List gL} {h : T AB}, (∀ p ∈ ps, base ≤ p.id) → (cD m ps h).2.get b = h.get b
 | [], h, _ => rfl
 | p :: ps, h, hp => by
  have h1 := hp p (by simp)
  have h2 : ∀ q ∈ ps, base ≤ q.id := fun q hq => hp q (by simp [hq])
  unfold cD
  cases Nat.testBit m p.i with
  | true => rw [aF, xY hb h2, T.get_set, if_neg (by omega)]
  | false => rw [aL]; exact xY hb h2
theorem zA {base : Nat} {m : Nat} : ∀ {ps : List gL} {h : T AB}, (∀ p ∈ ps, base ≤ p.id) → ∀ p ∈ (cD m ps h).1, base ≤ p.id
 | [], h, _, p, hp => by cases hp
 | p :: ps, h, hq, r, hr => by
  have h2 : ∀ q ∈ ps, base ≤ q.id := fun q hx => hq q (by simp [hx])
  unfold cD at hr
  cases ht : Nat.testBit m p.i with
  | true => rw [ht, aF] at hr; exact zA h2 r hr
  | false =>
   rw [ht, aL] at hr
   rcases Br.1 hr with rfl | hr
   ·exact hq r (by simp)
   ·exact zA h2 r hr
theorem aCi {W : Nat → Prop} {h0 : T AB} {base : Nat} {l : jO} (h : cO l.v l.v = true ∧ aDC W base l.q l.F ∧ gR l.q l.F h0 = some l.v) : ∀ {hs : List (Nat × Nat × T AB)} {h1 : T AB}, (∀ e ∈ hs, ∀ b, b < base → ¬ W b → e.2.2.get b = h0.get b) → (∀ b, b < base → ¬ W b → h1.get b = h0.get b) → eM l hs h1 = true
 | [], h1, _, hh => by
  show lN l.v (gR l.q l.F h1) = true
  rw [h.2.1.ev hh, h.2.2]; exact h.1
 | (i, m, h') :: r, h1, hs, hh => by
  have e1 : lN l.v (gR l.q l.F h1) = true := by rw [h.2.1.ev hh, h.2.2]; exact h.1
  have e2 : eM l r h' = true := aCi h (fun e he => hs e (by simp [he])) (hs (i, m, h') (by simp))
  unfold eM
  rw [e1, e2]
  cases Nat.testBit l.mask i <;> cases Nat.testBit m l.i <;> rfl
theorem kS {h0 : T AB} {hs : List (Nat × Nat × T AB)} : ∀ {ls : List jO}, (∀ l ∈ ls, eM l hs h0 = true) → fE h0 hs ls = true
 | [], _ => rfl
 | l :: ls, h => by rw [qW, h l (by simp), aF]; exact kS fun l' hl => h l' (by simp [hl])
theorem aKm {d : Option Nat} {tbl : List (Nat × Nat × Option (Bool × Nat))} {recv : cK} {args : List cK} {m i base : Nat} {l : List AO} {D : DS} {Q : DS → Prop} {t f : Nat} {u : AV} (hr : recv.val D.F = .iface t u) (hf : aAB t tbl = some (f, none)) (h : uN fns (⟨d, .x (.call (.c (.fn f [u] [])) args), none, m⟩ :: l) i base D Q) : uN fns (⟨d, .x (.inv tbl recv args), none, m⟩ :: l) i base D Q := by
 obtain ⟨n, D', e1, e2⟩ := h
 refine ⟨n, D', ?_, e2⟩
 have e : oK ⟨d, .x (.inv tbl recv args), none, m⟩ i base (ev fns n).call D = oK ⟨d, .x (.call (.c (.fn f [u] [])) args), none, m⟩ i base (ev fns n).call D := by
  show bQ (iQ D.hs m) (bE (vV (.inv tbl recv args) (ev fns n).call D.F ⟨(cD m D.ps D.S.h).2, D.S.nx⟩) _) none = bQ (iQ D.hs m) (bE (vV (.call (.c (.fn f [u] [])) args) (ev fns n).call D.F ⟨(cD m D.ps D.S.h).2, D.S.nx⟩) _) none
  rw [aKl hr hf]
 show bE (oK ⟨d, .x (.inv tbl recv args), none, m⟩ i base (ev fns n).call D) _ = _
 rw [e]
 exact e1
theorem kJ {W : Nat → Prop} {h0 : T AB} {base : Nat} {Q : Fr → St → List gL → Prop} : ∀ {ops : List AO} {i : Nat} {D : DS} {last : Option Nat}, DOk W h0 base D → D.hs.head?.map (·.1) = last → fJ fns W h0 base ops i D.F D.S D.ps last Q →
  uN fns ops i base D fun D' => Q D'.F D'.S D'.ps ∧ DOk W h0 base D'
 | [], i, D, last, hD, _, hr => by rw [jR]; exact ⟨hr, hD⟩
 | ⟨d, op, g, m⟩ :: l, i, D, last, hD, hlast, hr => by
  have hlk : jX last m = true → iQ D.hs m = true := fun h => by
   subst hlast
   cases hh : D.hs with
   | nil => rfl
   | cons e r => rw [hh] at h; exact h
  unfold fJ at hr
  by_cases hw : eH g D.F = true
  ·rw [if_pos hw] at hr
   have lift : uN fns (⟨d, op, none, m⟩ :: l) i base D (fun D' => Q D'.F D'.S D'.ps ∧ DOk W h0 base D') → uN fns (⟨d, op, g, m⟩ :: l) i base D (fun D' => Q D'.F D'.S D'.ps ∧ DOk W h0 base D') := by
    rintro ⟨n, D', e1, e2⟩
    refine ⟨n, D', ?_, e2⟩
    have : oK ⟨d, op, g, m⟩ i base (ev fns n).call D = oK ⟨d, op, none, m⟩ i base (ev fns n).call D := by
     show bQ (eH g D.F) _ _ = bQ true _ _
     rw [hw]
     cases op <;> rfl
    show bE (oK ⟨d, op, g, m⟩ i base (ev fns n).call D) _ = _
    rw [this]; exact e1
   apply lift
   cases op with
   | q q =>
    obtain ⟨v, hv, hs, hr⟩ := hr
    rw [iU]
    cases hq : dH q with
    | false =>
     rw [hq, aL] at hv
     refine ⟨v, hv, ?_⟩
     simp only [aL]
     exact kJ (D := ⟨cJ d D.F v, D.S, D.ps, D.hs, D.ls⟩) ⟨hD.cur, hD.nx, hD.chain, hD.lds, hD.pend⟩ hlast hr
    | true =>
     rw [hq, aF] at hv
     obtain ⟨hs1, hs2⟩ := hs hq
     refine ⟨v, by rw [hs2.ev hD.cur]; exact hv, ?_⟩
     simp only [aF]
     refine kJ (D := ⟨cJ d D.F v, D.S, D.ps, D.hs, ⟨q, D.F, v, i, m⟩ :: D.ls⟩) ⟨hD.cur, hD.nx, hD.chain, fun l' hl => ?_, hD.pend⟩ hlast hr
     rcases Br.1 hl with rfl | hl
     ·exact ⟨hs1, hs2, hv⟩
     ·exact hD.lds l' hl
   | a a =>
    obtain ⟨r, hv, hr⟩ := hr
    rw [aDm]
    refine ⟨r, hv, kJ (D := ⟨cJ d D.F r.1, D.S, ⟨i, base + i, r.2⟩ :: D.ps, D.hs, D.ls⟩) ⟨hD.cur, hD.nx, hD.chain, hD.lds, fun p hp => ?_⟩ hlast hr⟩
    rcases Br.1 hp with rfl | hp
    ·exact Ck _ _
    ·exact hD.pend p hp
   | x x =>
    have next : ∀ (v : AV) (S1 : St), aEL W base ⟨(cD m D.ps D.S.h).2, D.S.nx⟩ S1 → DOk W h0 base ⟨cJ d D.F v, S1, (cD m D.ps D.S.h).1, (i, m, S1.h) :: D.hs, D.ls⟩ := fun v S1 hS => by
     have hc : ∀ b, b < base → ¬ W b → S1.h.get b = h0.get b := fun b hb hw => by
      rw [hS.2 b hb hw]
      show (cD m D.ps D.S.h).2.get b = _
      rw [xY hb hD.pend]; exact hD.cur b hb hw
     refine ⟨hc, Al hD.nx hS.1, fun e he => ?_, hD.lds, zA hD.pend⟩
     rcases Br.1 he with rfl | he
     ·exact hc
     ·exact hD.chain e he
    have other : (∀ f args, x ≠ .call f args) → (∀ tbl r args, x ≠ .inv tbl r args) → (jX last m = true ∧ ∃ v S1, (∀ call, vV x call D.F ⟨(cD m D.ps D.S.h).2, D.S.nx⟩ = some (v, S1)) ∧ aEL W base ⟨(cD m D.ps D.S.h).2, D.S.nx⟩ S1 ∧ fJ fns W h0 base l (i + 1) (cJ d D.F v) S1 (cD m D.ps D.S.h).1 (some i) Q) → uN fns (⟨d, .x x, none, m⟩ :: l) i base D (fun D' => Q D'.F D'.S D'.ps ∧ DOk W h0 base D') := by
     rintro _ _ ⟨h1, v, S1, h2, h3, h4⟩
     exact kE (hlk h1) h2 (kJ (D := ⟨cJ d D.F v, S1, (cD m D.ps D.S.h).1, (i, m, S1.h) :: D.hs, D.ls⟩) (next v S1 h3) rfl h4)
    cases x with
    | call f args =>
     obtain ⟨h1, n, v, S1, h2, h3, h4⟩ := hr
     refine aBu (hlk h1) ⟨n, v, S1, h2, ?_⟩
     exact kJ (D := ⟨cJ d D.F v, S1, (cD m D.ps D.S.h).1, (i, m, S1.h) :: D.hs, D.ls⟩) (next v S1 (h3.elim (fun h3 => ⟨h3.1, fun b hb _ => h3.2 b (Ae hb hD.nx)⟩) id)) rfl h4
    | inv tbl r args =>
     obtain ⟨h1, t, f, u, hu, hf, n, v, S1, h2, h3, h4⟩ := hr
     refine aKm hu hf (aBu (hlk h1) ⟨n, v, S1, h2, ?_⟩)
     exact kJ (D := ⟨cJ d D.F v, S1, (cD m D.ps D.S.h).1, (i, m, S1.h) :: D.hs, D.ls⟩) (next v S1 ⟨h3.1, fun b hb _ => h3.2 b (Ae hb hD.nx)⟩) rfl h4
    | _ => exact other (fun _ _ h => by cases h) (fun _ _ _ h => by cases h) hr
  ·rw [if_neg hw] at hr
   obtain ⟨n, D', e1, e2⟩ := kJ (i := i + 1) (D := ⟨cJ d D.F .undef, D.S, D.ps, D.hs, D.ls⟩) (last := last) ⟨hD.cur, hD.nx, hD.chain, hD.lds, hD.pend⟩ hlast hr
   refine ⟨n, D', ?_, e2⟩
   have : oK ⟨d, op, g, m⟩ i base (ev fns n).call D = some ⟨cJ d D.F .undef, D.S, D.ps, D.hs, D.ls⟩ := by
    show bQ (eH g D.F) _ _ = _
    rw [show eH g D.F = false by simpa using hw]; rfl
   show bE (oK ⟨d, op, g, m⟩ i base (ev fns n).call D) _ = _
   rw [this]; exact e1
theorem wJ (W : Nat → Prop) {ops : List AO} {A : bT} {S : St} {Q : Out → bT → St → Prop} (h : fJ fns W S.h S.nx ops 0 A.F ⟨S.h, S.nx + ops.length⟩ [] none fun F S' ps => Q .normal ⟨F, A.inr⟩ ⟨(cD (2 ^ ops.length - 1) ps S'.h).2, S'.nx⟩) : kH fns (.drw ops) A S Q := by
 refine qD ?_
 obtain ⟨n, D', e1, e2, e3⟩ := kJ (fns := fns) (i := 0) (D := ⟨A.F, ⟨S.h, S.nx + ops.length⟩, [], [], []⟩) (last := none) ⟨fun _ _ _ => rfl, Ck _ _, fun e he => (by cases he), fun l hl => (by cases hl), fun p hp => (by cases hp)⟩ rfl h
 exact ⟨n, D', e1, kS fun l hl => aCi (e3.lds l hl) (fun e he => e3.chain e (List.mem_reverse.1 he)) (fun _ _ _ => rfl), e2⟩
def aIG (fns : T eJ) (W : Nat → Prop) (h0 : T AB) (base : Nat) (x : Option AV) (ld : Bool) (old : Prop) (d : Option Nat) (l : List AO) (i : Nat) (F : Fr) (S : St) (ps : List gL) (last : Option Nat) (Q : Fr → St → List gL → Prop) : Prop := kD x fun v => (ld = true → cO v v = true ∧ old) ∧ fJ fns W h0 base l i (cJ d F v) S ps last Q
def aEx (fns : T eJ) (W : Nat → Prop) (h0 : T AB) (base : Nat) (x : Option (AV × AB)) (d : Option Nat) (l : List AO) (i : Nat) (F : Fr) (S : St) (ps : List gL) (last : Option Nat) (Q : Fr → St → List gL → Prop) : Prop := kD x fun r => fJ fns W h0 base l (i + 1) (cJ d F r.1) S (⟨i, base + i, r.2⟩ :: ps) last Q
section
variable {W : Nat → Prop} {h0 : T AB} {base : Nat} {d : Option Nat} {m i : Nat} {l : List AO} {F : Fr} {S : St} {ps : List gL} {last : Option Nat} {Q : Fr → St → List gL → Prop}
theorem aEv : fJ fns W h0 base [] i F S ps last Q ↔ Q F S ps := Iff.rfl
theorem aIo {q : uY} : fJ fns W h0 base (⟨d, .q q, none, m⟩ :: l) i F S ps last Q ↔ aIG fns W h0 base (gR q F (bQ (dH q) h0 S.h)) (dH q) (aDC W base q F) d l (i + 1) F S ps last Q := by
 rw [fJ, if_pos (show eH none F = true from rfl)]; rfl
theorem aA2 {v : AV} {ld : Bool} {old : Prop} : aIG fns W h0 base (some v) ld old d l i F S ps last Q ↔ (ld = true → cO v v = true ∧ old) ∧ fJ fns W h0 base l i (cJ d F v) S ps last Q := by unfold aIG; rw [dP]
theorem aJI {a : sG} : fJ fns W h0 base (⟨d, .a a, none, m⟩ :: l) i F S ps last Q ↔ aEx fns W h0 base (rO a F (base + i)) d l i F S ps last Q := by
 rw [fJ, if_pos (show eH none F = true from rfl)]; rfl
theorem nH {r : AV × AB} : aEx fns W h0 base (some r) d l i F S ps last Q ↔ fJ fns W h0 base l (i + 1) (cJ d F r.1) S (⟨i, base + i, r.2⟩ :: ps) last Q := by unfold aEx; rw [dP]
theorem aCn {f : cK} {args : List cK} (h : jX last m = true) (hw : iM fns (f.val F) (cW args F) ⟨(cD m ps S.h).2, S.nx⟩ fun v S1 => Same ⟨(cD m ps S.h).2, S.nx⟩ S1 ∧ fJ fns W h0 base l (i + 1) (cJ d F v) S1 (cD m ps S.h).1 (some i) Q) : fJ fns W h0 base (⟨d, .x (.call f args), none, m⟩ :: l) i F S ps last Q := by
 rw [fJ, if_pos (show eH none F = true from rfl)]; exact ⟨h, aW hw fun v S1 h => ⟨.inl h.1, h.2⟩⟩
theorem jN {f : cK} {args : List cK} (h : jX last m = true) (hw : iM fns (f.val F) (cW args F) ⟨(cD m ps S.h).2, S.nx⟩ fun v S1 => aEL W base ⟨(cD m ps S.h).2, S.nx⟩ S1 ∧ fJ fns W h0 base l (i + 1) (cJ d F v) S1 (cD m ps S.h).1 (some i) Q) : fJ fns W h0 base (⟨d, .x (.call f args), none, m⟩ :: l) i F S ps last Q := by
 rw [fJ, if_pos (show eH none F = true from rfl)]; exact ⟨h, aW hw fun v S1 h => ⟨.inr h.1, h.2⟩⟩
theorem tD {n : Nat} {x v : cK} {S1 : St} (h : jX last m = true) (he : bE (v.val F).cells (fun cs => nQ (x.val F) n cs ⟨(cD m ps S.h).2, S.nx⟩) = some (.undef, S1)) (ho : aEL W base ⟨(cD m ps S.h).2, S.nx⟩ S1) (hr : fJ fns W h0 base l (i + 1) (cJ d F .undef) S1 (cD m ps S.h).1 (some i) Q) : fJ fns W h0 base (⟨d, .x (.st n x v), none, m⟩ :: l) i F S ps last Q := by
 unfold fJ; rw [if_pos (show eH none F = true from rfl)]; exact ⟨h, _, S1, fun call => he, ho, hr⟩
theorem aIu {op : AOp} {s : Nat} {b : Bool} : fJ fns W h0 base (⟨d, op, some (s, b), m⟩ :: l) i F S ps last Q ↔ if isB (aC s F) b = true then fJ fns W h0 base (⟨d, op, none, m⟩ :: l) i F S ps last Q else fJ fns W h0 base l (i + 1) (cJ d F .undef) S ps last Q := by
 conv => lhs; unfold fJ
 rw [show eH (some (s, b)) F = isB (aC s F) b from rfl]
 split
 ·conv => rhs; unfold fJ
  rw [if_pos (show eH none F = true from rfl)]
 ·rfl
theorem aF8 {agg : Bool} {n : Nat} {x : cK} : aDC W base (.ld agg n x) F ↔ aLu W base (x.val F) := by
 constructor
 ·rintro ⟨_, _, _, h, h2⟩; cases h; exact h2
 ·exact fun h => ⟨_, _, _, rfl, h⟩
theorem aD0 {b off : Nat} : aLu W base (.ptr b off) ↔ b < base ∧ ¬ W b := by
 constructor
 ·rintro ⟨_, _, h, h2⟩; cases h; exact h2
 ·exact fun h => ⟨_, _, rfl, h⟩
end
theorem stV : type_of% (And.intro @aEv (And.intro @aIo (And.intro @aJI (And.intro @aIu (@yF))))) := And.intro @aEv (And.intro @aIo (And.intro @aJI (And.intro @aIu (@yF))))
theorem stW : type_of% (And.intro @aA2 (And.intro @nH (And.intro @aF8 (And.intro @aD0 (And.intro @cA (And.intro (@Az AO) (And.intro (@Bz AO) (And.intro (@Az AV) (And.intro (@Bz AV) (And.intro (@Az Nat) (@Bz Nat))))))))))) := And.intro @aA2 (And.intro @nH (And.intro @aF8 (And.intro @aD0 (And.intro @cA (And.intro (@Az AO) (And.intro (@Bz AO) (And.intro (@Az AV) (And.intro (@Bz AV) (And.intro (@Az Nat) (@Bz Nat))))))))))
theorem sU : type_of% (And.intro aH stV) := And.intro aH stV
theorem sD : type_of% (And.intro aJ stW) := And.intro aJ stW
theorem aCM (e : vC) {a b : Int} (hb : b ≠ 0) : lE .quo e (.int .i64 a) (.int .i64 b) = some (.int .i64 (IntKind.i64.wrap (a.tdiv b))) := by
 show dS .quo .i64 a .i64 b = _
 unfold dS
 rw [show fG .quo = false from rfl, aL, gK, aF]
 show aI8 .i64 a b = _
 unfold aI8
 split
 ·rename_i m n
  have h0 : Nat.beq n 0 = false := by
   rw [Cb]; intro h; rw [Bd] at h; subst h; exact hb rfl
  rw [h0, aL, nat_eq]
  rfl
 ·have h0 : ieq b (.ofNat 0) = false := by
   rw [Cb]; intro h; rw [lU] at h; exact hb (by simpa using h)
  rw [h0, aL, sK]
theorem pU (e : vC) {a b : Int} (ha : 0 ≤ a) (ha2 : a ≤ 9223372036854775807) (hb : 0 < b) : lE .quo e (.int .i64 a) (.int .i64 b) = some (.int .i64 (a / b)) := by
 rw [aCM e (by omega), Int.tdiv_eq_ediv_of_nonneg ha]
 rw [wrap_i64]
 ·have := Int.ediv_nonneg ha (Int.le_of_lt hb); omega
 ·have := Int.ediv_le_self b ha; omega
theorem aDY (a : Int) : unV .neg (.int .i64 a) = some (.int .i64 (IntKind.i64.wrap (-a))) := by
 show some (AV.int .i64 (aE8 .i64 (.ofNat 0) a)) = _
 rw [wR]
 congr 3
 show (0 : Int) - a = -a
 omega
def mx (a b : Int) : Int := if b ≤ a then a else b
theorem aLJ (l : List cK) (F : Fr) (h : T AB) : gR (.minmax true l) F h = lM true (cW l F) := rfl
theorem aJV (v : AV) (l : List AV) : lM true (v :: l) = jT true l v := rfl
theorem aMa (v : AV) : jT true [] v = some v := rfl
theorem aLW (a b : Int) (l : List AV) : jT true (.int .i64 b :: l) (.int .i64 a) = jT true l (.int .i64 (mx a b)) := by
 show bQ (keq .i64 .i64) (jT true l (.int .i64 (bQ true (bQ (ile b a) a b) _))) none = _
 rw [gK, aF, aF]
 congr 2
 unfold mx
 rw [nI]
 by_cases h : b ≤ a
 ·rw [if_pos h, Ad h]; rfl
 ·rw [if_neg h, Aa h]; rfl
theorem aGp (t : Nat) (x : cK) (F : Fr) (id : Nat) : rO (.box t x) F id = bE (x.val F).cells fun cs => some (.ptr id 0, .cells cs false 0) := rfl
theorem tA (t : Nat) (cs : List AV) (F : Fr) (id : Nat) : rO (.alloc t cs) F id = some (.ptr id 0, .cells cs false 0) := rfl
theorem aEk (f : Nat) (first cap : List cK) (F : Fr) (h : T AB) : gR (.mkFunc f first cap) F h = some (.fn f (cW first F) (cW cap F)) := rfl
theorem bK (cs : List AV) : (AV.agg cs).cells = some cs := rfl
theorem aE1 (a b c d : Nat) (e : Bool) : (AV.sl a b c d e).cells = some [.sl a b c d e] := rfl
theorem aA (i : Nat) (x : cK) (F : Fr) (h : T AB) : gR (.faddr i x) F h = uL (x.val F) i := rfl
theorem aB (b o i : Nat) : uL (.ptr b o) i = some (.ptr b (o + i)) := rfl
theorem aO (i : Nat) (x : cK) : dH (.faddr i x) = false := rfl
theorem lO (z : List AV) (ps : List (Nat × Nat × cK)) : dH (.build z ps) = false := rfl
theorem eZ (a : Nat) (agg : Bool) (n : Nat) (rs : List RV) (F : Fr) (h : T AB) : results (.cell a agg n :: rs) F h = bE (fH (aC a F) agg n h) fun v => bE (results rs F h) fun vs => some (v :: vs) := rfl
section
variable {h : T AB} {b : Nat} {x y z : AV} {o : Bool} {s : Nat}
theorem ld3 (hb : h.get b = some (.cells [x, y, z] o s)) : fH (.ptr b 0) true 3 h = some (.agg [x, y, z]) := by
 simp only [fH, oD, aF, tV, cP, hb, aE, nO]; rfl
end
theorem vL {S : St} {b n : Nat} {cs cs' : List AV} {o : Bool} {s : Nat} (h : S.h.get b = some (.cells cs o s)) (h1 : cs.length = n) (h2 : cs'.length = n) : nQ (.ptr b 0) n cs' S = some (.undef, ⟨S.h.set b (some (.cells cs' o s)), S.nx⟩) := by
 have hp : put cs 0 cs' = some cs' := by
  rw [put_eq, if_pos (by omega)]
  simp [Cv (show cs.length ≤ cs'.length by omega)]
 simp only [nQ, gG, h2, oP, h, aE, yQ, hp]
 rw [show Nat.beq n n = true from Nat.beq_refl n]
 rfl
theorem eQ {d t m : Nat} {x : cK} {l : List AO} {F : Fr} {S : St} {Q : Fr → St → Prop} {cs : List AV} (hc : (x.val F).cells = some cs) (h : ∀ S1, Same S S1 → S1.nx = S.nx + 1 → S1.h.get S.nx = some (.cells cs false 0) → qM fns l (cJ (some d) F (.ptr S.nx 0)) S1 Q) : qM fns (⟨some d, .a (.box t x), none, m⟩ :: l) F S Q := by
 rw [yF]
 refine ⟨(.ptr S.nx 0, .cells cs false 0), by rw [aGp, hc]; rfl, h _ (Same.alloc S _) rfl ?_⟩
 simp only
 rw [T.get_set, if_pos rfl]
theorem dC {d t m : Nat} {l : List AO} {F : Fr} {S : St} {Q : Fr → St → Prop} {cs : List AV} (h : ∀ S1, Same S S1 → S1.nx = S.nx + 1 → S1.h.get S.nx = some (.cells cs false 0) → qM fns l (cJ (some d) F (.ptr S.nx 0)) S1 Q) : qM fns (⟨some d, .a (.alloc t cs), none, m⟩ :: l) F S Q := by
 rw [yF]
 refine ⟨(.ptr S.nx 0, .cells cs false 0), rfl, h _ (Same.alloc S _) rfl ?_⟩
 simp only
 rw [T.get_set, if_pos rfl]
theorem dU {n m b s : Nat} {x v : cK} {l : List AO} {F : Fr} {S : St} {Q : Fr → St → Prop} {cs cs' : List AV} {o : Bool} (hx : x.val F = .ptr b 0) (hv : (v.val F).cells = some cs') (hb : S.h.get b = some (.cells cs o s)) (h1 : cs.length = n) (h2 : cs'.length = n)
  (h : ∀ S1, cU b S S1 → S1.nx = S.nx → S1.h.get b = some (.cells cs' o s) → qM fns l F S1 Q) : qM fns (⟨none, .x (.st n x v), none, m⟩ :: l) F S Q := by
 refine fX (v := .undef) (fun call => ?_) (h ⟨S.h.set b (some (.cells cs' o s)), S.nx⟩ ((cU.refl b S).put _) rfl ?_)
 ·rw [dW, hv, aE, hx]; exact vL hb h1 h2
 ·simp only
  rw [T.get_set, if_pos rfl]
theorem mN (W : Nat → Prop) {ops : List AO} {A : bT} {S : St} {Q : Out → bT → St → Prop} (h : ∀ S1, Same S S1 → fJ fns W S.h S.nx ops 0 A.F S1 [] none fun F S' ps => Q .normal ⟨F, A.inr⟩ ⟨(cD (2 ^ ops.length - 1) ps S'.h).2, S'.nx⟩) : kH fns (.drw ops) A S Q := wJ W (h _ (Same.nx S _))
section
variable {W : Nat → Prop} {h0 : T AB} {base : Nat} {d : Option Nat} {m i : Nat} {l : List AO} {F : Fr} {S : St} {last : Option Nat} {Q : Fr → St → List gL → Prop}
theorem iF {f : cK} {args : List cK} (h : jX last m = true) (hw : iM fns (f.val F) (cW args F) S fun v S1 => Same S S1 ∧ fJ fns W h0 base l (i + 1) (cJ d F v) S1 [] (some i) Q) : fJ fns W h0 base (⟨d, .x (.call f args), none, m⟩ :: l) i F S [] last Q :=
 aCn h hw
end
theorem gS (b : Bool) : unV .not (.bool b) = some (.bool (!b)) := by cases b <;> rfl
theorem aDp : eX (.int .i64 0) = some 0 := rfl
end Go.Ev.Gl
