/- Contracts (2): the greatest common divisor; rational numbers. -/
import Derived.Test.YtffbfglbdghpaaaGreatDoorGl1
open Nat (reduceEqDiff reduceAdd)
set_option maxHeartbeats 4000000
set_option linter.unusedSimpArgs false
set_option linter.unusedVariables false
namespace Go.Ev.Gl
variable {fns : T AFn}

/-! ## Regions that draw their order: calls that keep what lies there, loads of what lay there before -/
def inMask (last : Option Nat) (m : Nat) : Bool :=
  match last with
  | none => true
  | some i => Nat.testBit m i
def OldP (W : Nat → Prop) (base : Nat) (v : AV) : Prop := ∃ b off, v = .ptr b off ∧ b < base ∧ ¬ W b
def OldL (W : Nat → Prop) (base : Nat) (q : QOp) (F : Fr) : Prop := (∃ agg n x, q = .ld agg n x ∧ OldP W base (x.val F)) ∨ ∃ sk z ok m k b, q = .lookup sk z ok m k ∧ m.val F = .map b ∧ b < base ∧ ¬ W b
/-- what the region may not write is as it was -/
def OffW (W : Nat → Prop) (base : Nat) (S S' : St) : Prop := S.nx ≤ S'.nx ∧ ∀ b, b < base → ¬ W b → S'.h.get b = S.h.get b

def runD (fns : T AFn) (W : Nat → Prop) (h0 : T AB) (base : Nat) : List AO → Nat → Fr → St → List Pend → Option Nat → (Fr → St → List Pend → Prop) → Prop
  | [], _, F, S, ps, _, Q => Q F S ps
  | ⟨d, op, g, m⟩ :: l, i, F, S, ps, last, Q =>
    if wants g F = true then
      match op with
      | .q q => onSome (evQ q F (bsel (isLoad q) h0 S.h)) fun v => (isLoad q = true → sameV v v = true ∧ OldL W base q F) ∧ runD fns W h0 base l (i + 1) (putF d F v) S ps last Q
      | .a a => onSome (evA a F (base + i)) fun r => runD fns W h0 base l (i + 1) (putF d F r.1) S (⟨i, base + i, r.2⟩ :: ps) last Q
      | .x (.call f args) => inMask last m = true ∧ wpf fns (f.val F) (valsOf args F) ⟨(flush m ps S.h).2, S.nx⟩ fun v S1 => (Same ⟨(flush m ps S.h).2, S.nx⟩ S1 ∨ OffW W base ⟨(flush m ps S.h).2, S.nx⟩ S1) ∧ runD fns W h0 base l (i + 1) (putF d F v) S1 (flush m ps S.h).1 (some i) Q
      | .x (.inv tbl r args) => inMask last m = true ∧ ∃ t f u, r.val F = .iface t u ∧ findM t tbl = some (f, none) ∧ wpf fns (.fn f [u] []) (valsOf args F) ⟨(flush m ps S.h).2, S.nx⟩ fun v S1 => Same ⟨(flush m ps S.h).2, S.nx⟩ S1 ∧ runD fns W h0 base l (i + 1) (putF d F v) S1 (flush m ps S.h).1 (some i) Q
      | .x x => inMask last m = true ∧ ∃ v S1, (∀ call, evX x call F ⟨(flush m ps S.h).2, S.nx⟩ = some (v, S1)) ∧ OffW W base ⟨(flush m ps S.h).2, S.nx⟩ S1 ∧ runD fns W h0 base l (i + 1) (putF d F v) S1 (flush m ps S.h).1 (some i) Q
    else runD fns W h0 base l (i + 1) (putF d F .undef) S ps last Q

structure DOk (W : Nat → Prop) (h0 : T AB) (base : Nat) (D : DS) : Prop where
  cur : ∀ b, b < base → ¬ W b → D.S.h.get b = h0.get b
  nx : base ≤ D.S.nx
  chain : ∀ e ∈ D.hs, ∀ b, b < base → ¬ W b → e.2.2.get b = h0.get b
  lds : ∀ l ∈ D.ls, sameV l.v l.v = true ∧ OldL W base l.q l.F ∧ evQ l.q l.F h0 = some l.v
  pend : ∀ p ∈ D.ps, base ≤ p.id

theorem OldL.ev {W : Nat → Prop} {base : Nat} {q : QOp} {F : Fr} (h : OldL W base q F) {h0 h1 : T AB} (hh : ∀ b, b < base → ¬ W b → h1.get b = h0.get b) : evQ q F h1 = evQ q F h0 := by
  rcases h with ⟨agg, n, x, rfl, b, off, hx, hb, hw⟩ | ⟨sk, z, ok, m, k, b, rfl, hx, hb, hw⟩
  · rw [evQ_ld, evQ_ld, hx]
    have e : cellsAt h1 b = cellsAt h0 b := by unfold cellsAt; rw [hh b hb hw]
    simp only [qLdV, loadV, loadN, load1, e]
  · show (osel (mapAt h1 (m.val F)) fun es => _) = osel (mapAt h0 (m.val F)) fun es => _
    rw [hx]
    show (osel (osel (h1.get b) mapOfB) fun es => _) = osel (osel (h0.get b) mapOfB) fun es => _
    rw [hh b hb hw]

theorem flush_get {base b : Nat} (hb : b < base) {m : Nat} : ∀ {ps : List Pend} {h : T AB}, (∀ p ∈ ps, base ≤ p.id) → (flush m ps h).2.get b = h.get b
  | [], h, _ => rfl
  | p :: ps, h, hp => by
    have h1 := hp p (by simp)
    have h2 : ∀ q ∈ ps, base ≤ q.id := fun q hq => hp q (by simp [hq])
    unfold flush
    cases Nat.testBit m p.i with
    | true => rw [bsel_true, flush_get hb h2, T.get_set, if_neg (by omega)]
    | false => rw [bsel_false]; exact flush_get hb h2
theorem flush_mem {base : Nat} {m : Nat} : ∀ {ps : List Pend} {h : T AB}, (∀ p ∈ ps, base ≤ p.id) → ∀ p ∈ (flush m ps h).1, base ≤ p.id
  | [], h, _, p, hp => by cases hp
  | p :: ps, h, hq, r, hr => by
    have h2 : ∀ q ∈ ps, base ≤ q.id := fun q hx => hq q (by simp [hx])
    unfold flush at hr
    cases ht : Nat.testBit m p.i with
    | true => rw [ht, bsel_true] at hr; exact flush_mem h2 r hr
    | false =>
      rw [ht, bsel_false] at hr
      rcases List.mem_cons.1 hr with rfl | hr
      · exact hq r (by simp)
      · exact flush_mem h2 r hr

theorem loadGo_ok {W : Nat → Prop} {h0 : T AB} {base : Nat} {l : Loaded} (h : sameV l.v l.v = true ∧ OldL W base l.q l.F ∧ evQ l.q l.F h0 = some l.v) : ∀ {hs : List (Nat × Nat × T AB)} {h1 : T AB}, (∀ e ∈ hs, ∀ b, b < base → ¬ W b → e.2.2.get b = h0.get b) → (∀ b, b < base → ¬ W b → h1.get b = h0.get b) → loadGo l hs h1 = true
  | [], h1, _, hh => by
    show sameO l.v (evQ l.q l.F h1) = true
    rw [h.2.1.ev hh, h.2.2]; exact h.1
  | (i, m, h') :: r, h1, hs, hh => by
    have e1 : sameO l.v (evQ l.q l.F h1) = true := by rw [h.2.1.ev hh, h.2.2]; exact h.1
    have e2 : loadGo l r h' = true := loadGo_ok h (fun e he => hs e (by simp [he])) (hs (i, m, h') (by simp))
    unfold loadGo
    rw [e1, e2]
    cases Nat.testBit l.mask i <;> cases Nat.testBit m l.i <;> rfl

theorem loadsOk_of {h0 : T AB} {hs : List (Nat × Nat × T AB)} : ∀ {ls : List Loaded}, (∀ l ∈ ls, loadGo l hs h0 = true) → loadsOk h0 hs ls = true
  | [], _ => rfl
  | l :: ls, h => by rw [loadsOk_cons, h l (by simp), bsel_true]; exact loadsOk_of fun l' hl => h l' (by simp [hl])

theorem wpd_inv {d : Option Nat} {tbl : List (Nat × Nat × Option (Bool × Nat))} {recv : Opd} {args : List Opd} {m i base : Nat} {l : List AO} {D : DS} {Q : DS → Prop} {t f : Nat} {u : AV} (hr : recv.val D.F = .iface t u) (hf : findM t tbl = some (f, none)) (h : wpd fns (⟨d, .x (.call (.c (.fn f [u] [])) args), none, m⟩ :: l) i base D Q) : wpd fns (⟨d, .x (.inv tbl recv args), none, m⟩ :: l) i base D Q := by
  obtain ⟨n, D', e1, e2⟩ := h
  refine ⟨n, D', ?_, e2⟩
  have e : evD ⟨d, .x (.inv tbl recv args), none, m⟩ i base (ev fns n).call D = evD ⟨d, .x (.call (.c (.fn f [u] [])) args), none, m⟩ i base (ev fns n).call D := by
    show bsel (lastOk D.hs m) (osel (evX (.inv tbl recv args) (ev fns n).call D.F ⟨(flush m D.ps D.S.h).2, D.S.nx⟩) _) none = bsel (lastOk D.hs m) (osel (evX (.call (.c (.fn f [u] [])) args) (ev fns n).call D.F ⟨(flush m D.ps D.S.h).2, D.S.nx⟩) _) none
    rw [evX_inv hr hf]
  show osel (evD ⟨d, .x (.inv tbl recv args), none, m⟩ i base (ev fns n).call D) _ = _
  rw [e]
  exact e1
theorem runD_wpd {W : Nat → Prop} {h0 : T AB} {base : Nat} {Q : Fr → St → List Pend → Prop} : ∀ {ops : List AO} {i : Nat} {D : DS} {last : Option Nat}, DOk W h0 base D → D.hs.head?.map (·.1) = last → runD fns W h0 base ops i D.F D.S D.ps last Q →
    wpd fns ops i base D fun D' => Q D'.F D'.S D'.ps ∧ DOk W h0 base D'
  | [], i, D, last, hD, _, hr => by rw [wpd_nil]; exact ⟨hr, hD⟩
  | ⟨d, op, g, m⟩ :: l, i, D, last, hD, hlast, hr => by
    have hlk : inMask last m = true → lastOk D.hs m = true := fun h => by
      subst hlast
      cases hh : D.hs with
      | nil => rfl
      | cons e r => rw [hh] at h; exact h
    unfold runD at hr
    by_cases hw : wants g D.F = true
    · rw [if_pos hw] at hr
      have lift : wpd fns (⟨d, op, none, m⟩ :: l) i base D (fun D' => Q D'.F D'.S D'.ps ∧ DOk W h0 base D') → wpd fns (⟨d, op, g, m⟩ :: l) i base D (fun D' => Q D'.F D'.S D'.ps ∧ DOk W h0 base D') := by
        rintro ⟨n, D', e1, e2⟩
        refine ⟨n, D', ?_, e2⟩
        have : evD ⟨d, op, g, m⟩ i base (ev fns n).call D = evD ⟨d, op, none, m⟩ i base (ev fns n).call D := by
          show bsel (wants g D.F) _ _ = bsel true _ _
          rw [hw]
          cases op <;> rfl
        show osel (evD ⟨d, op, g, m⟩ i base (ev fns n).call D) _ = _
        rw [this]; exact e1
      apply lift
      cases op with
      | q q =>
        obtain ⟨v, hv, hs, hr⟩ := hr
        rw [wpd_qE]
        cases hq : isLoad q with
        | false =>
          rw [hq, bsel_false] at hv
          refine ⟨v, hv, ?_⟩
          simp only [bsel_false]
          exact runD_wpd (D := ⟨putF d D.F v, D.S, D.ps, D.hs, D.ls⟩) ⟨hD.cur, hD.nx, hD.chain, hD.lds, hD.pend⟩ hlast hr
        | true =>
          rw [hq, bsel_true] at hv
          obtain ⟨hs1, hs2⟩ := hs hq
          refine ⟨v, by rw [hs2.ev hD.cur]; exact hv, ?_⟩
          simp only [bsel_true]
          refine runD_wpd (D := ⟨putF d D.F v, D.S, D.ps, D.hs, ⟨q, D.F, v, i, m⟩ :: D.ls⟩) ⟨hD.cur, hD.nx, hD.chain, fun l' hl => ?_, hD.pend⟩ hlast hr
          rcases List.mem_cons.1 hl with rfl | hl
          · exact ⟨hs1, hs2, hv⟩
          · exact hD.lds l' hl
      | a a =>
        obtain ⟨r, hv, hr⟩ := hr
        rw [wpd_aE]
        refine ⟨r, hv, runD_wpd (D := ⟨putF d D.F r.1, D.S, ⟨i, base + i, r.2⟩ :: D.ps, D.hs, D.ls⟩) ⟨hD.cur, hD.nx, hD.chain, hD.lds, fun p hp => ?_⟩ hlast hr⟩
        rcases List.mem_cons.1 hp with rfl | hp
        · exact Nat.le_add_right _ _
        · exact hD.pend p hp
      | x x =>
        have next : ∀ (v : AV) (S1 : St), OffW W base ⟨(flush m D.ps D.S.h).2, D.S.nx⟩ S1 → DOk W h0 base ⟨putF d D.F v, S1, (flush m D.ps D.S.h).1, (i, m, S1.h) :: D.hs, D.ls⟩ := fun v S1 hS => by
          have hc : ∀ b, b < base → ¬ W b → S1.h.get b = h0.get b := fun b hb hw => by
            rw [hS.2 b hb hw]
            show (flush m D.ps D.S.h).2.get b = _
            rw [flush_get hb hD.pend]; exact hD.cur b hb hw
          refine ⟨hc, Nat.le_trans hD.nx hS.1, fun e he => ?_, hD.lds, flush_mem hD.pend⟩
          rcases List.mem_cons.1 he with rfl | he
          · exact hc
          · exact hD.chain e he
        have other : (∀ f args, x ≠ .call f args) → (∀ tbl r args, x ≠ .inv tbl r args) → (inMask last m = true ∧ ∃ v S1, (∀ call, evX x call D.F ⟨(flush m D.ps D.S.h).2, D.S.nx⟩ = some (v, S1)) ∧ OffW W base ⟨(flush m D.ps D.S.h).2, D.S.nx⟩ S1 ∧ runD fns W h0 base l (i + 1) (putF d D.F v) S1 (flush m D.ps D.S.h).1 (some i) Q) → wpd fns (⟨d, .x x, none, m⟩ :: l) i base D (fun D' => Q D'.F D'.S D'.ps ∧ DOk W h0 base D') := by
          rintro _ _ ⟨h1, v, S1, h2, h3, h4⟩
          exact wpd_x (hlk h1) h2 (runD_wpd (D := ⟨putF d D.F v, S1, (flush m D.ps D.S.h).1, (i, m, S1.h) :: D.hs, D.ls⟩) (next v S1 h3) rfl h4)
        cases x with
        | call f args =>
          obtain ⟨h1, n, v, S1, h2, h3, h4⟩ := hr
          refine wpd_call (hlk h1) ⟨n, v, S1, h2, ?_⟩
          exact runD_wpd (D := ⟨putF d D.F v, S1, (flush m D.ps D.S.h).1, (i, m, S1.h) :: D.hs, D.ls⟩) (next v S1 (h3.elim (fun h3 => ⟨h3.1, fun b hb _ => h3.2 b (Nat.lt_of_lt_of_le hb hD.nx)⟩) id)) rfl h4
        | inv tbl r args =>
          obtain ⟨h1, t, f, u, hu, hf, n, v, S1, h2, h3, h4⟩ := hr
          refine wpd_inv hu hf (wpd_call (hlk h1) ⟨n, v, S1, h2, ?_⟩)
          exact runD_wpd (D := ⟨putF d D.F v, S1, (flush m D.ps D.S.h).1, (i, m, S1.h) :: D.hs, D.ls⟩) (next v S1 ⟨h3.1, fun b hb _ => h3.2 b (Nat.lt_of_lt_of_le hb hD.nx)⟩) rfl h4
        | _ => exact other (fun _ _ h => by cases h) (fun _ _ _ h => by cases h) hr
    · rw [if_neg hw] at hr
      obtain ⟨n, D', e1, e2⟩ := runD_wpd (i := i + 1) (D := ⟨putF d D.F .undef, D.S, D.ps, D.hs, D.ls⟩) (last := last) ⟨hD.cur, hD.nx, hD.chain, hD.lds, hD.pend⟩ hlast hr
      refine ⟨n, D', ?_, e2⟩
      have : evD ⟨d, op, g, m⟩ i base (ev fns n).call D = some ⟨putF d D.F .undef, D.S, D.ps, D.hs, D.ls⟩ := by
        show bsel (wants g D.F) _ _ = _
        rw [show wants g D.F = false by simpa using hw]; rfl
      show osel (evD ⟨d, op, g, m⟩ i base (ev fns n).call D) _ = _
      rw [this]; exact e1

theorem wpc_drd (W : Nat → Prop) {ops : List AO} {A : Act'} {S : St} {Q : Out → Act' → St → Prop} (h : runD fns W S.h S.nx ops 0 A.F ⟨S.h, S.nx + ops.length⟩ [] none fun F S' ps => Q .normal ⟨F, A.inr⟩ ⟨(flush (2 ^ ops.length - 1) ps S'.h).2, S'.nx⟩) : wpc fns (.drw ops) A S Q := by
  refine wpc_drw ?_
  obtain ⟨n, D', e1, e2, e3⟩ := runD_wpd (fns := fns) (i := 0) (D := ⟨A.F, ⟨S.h, S.nx + ops.length⟩, [], [], []⟩) (last := none) ⟨fun _ _ _ => rfl, Nat.le_add_right _ _, fun e he => (by cases he), fun l hl => (by cases hl), fun p hp => (by cases hp)⟩ rfl h
  exact ⟨n, D', e1, loadsOk_of fun l hl => loadGo_ok (e3.lds l hl) (fun e he => e3.chain e (List.mem_reverse.1 he)) (fun _ _ _ => rfl), e2⟩

/-! ### the rules -/
def contD (fns : T AFn) (W : Nat → Prop) (h0 : T AB) (base : Nat) (x : Option AV) (ld : Bool) (old : Prop) (d : Option Nat) (l : List AO) (i : Nat) (F : Fr) (S : St) (ps : List Pend) (last : Option Nat) (Q : Fr → St → List Pend → Prop) : Prop := onSome x fun v => (ld = true → sameV v v = true ∧ old) ∧ runD fns W h0 base l i (putF d F v) S ps last Q
def contA (fns : T AFn) (W : Nat → Prop) (h0 : T AB) (base : Nat) (x : Option (AV × AB)) (d : Option Nat) (l : List AO) (i : Nat) (F : Fr) (S : St) (ps : List Pend) (last : Option Nat) (Q : Fr → St → List Pend → Prop) : Prop := onSome x fun r => runD fns W h0 base l (i + 1) (putF d F r.1) S (⟨i, base + i, r.2⟩ :: ps) last Q
section
variable {W : Nat → Prop} {h0 : T AB} {base : Nat} {d : Option Nat} {m i : Nat} {l : List AO} {F : Fr} {S : St} {ps : List Pend} {last : Option Nat} {Q : Fr → St → List Pend → Prop}
theorem runD_nil : runD fns W h0 base [] i F S ps last Q ↔ Q F S ps := Iff.rfl
theorem runD_q {q : QOp} : runD fns W h0 base (⟨d, .q q, none, m⟩ :: l) i F S ps last Q ↔ contD fns W h0 base (evQ q F (bsel (isLoad q) h0 S.h)) (isLoad q) (OldL W base q F) d l (i + 1) F S ps last Q := by
  rw [runD, if_pos (show wants none F = true from rfl)]; rfl
theorem contD_some {v : AV} {ld : Bool} {old : Prop} : contD fns W h0 base (some v) ld old d l i F S ps last Q ↔ (ld = true → sameV v v = true ∧ old) ∧ runD fns W h0 base l i (putF d F v) S ps last Q := by unfold contD; rw [onSome_some]
theorem runD_a {a : AlOp} : runD fns W h0 base (⟨d, .a a, none, m⟩ :: l) i F S ps last Q ↔ contA fns W h0 base (evA a F (base + i)) d l i F S ps last Q := by
  rw [runD, if_pos (show wants none F = true from rfl)]; rfl
theorem contA_some {r : AV × AB} : contA fns W h0 base (some r) d l i F S ps last Q ↔ runD fns W h0 base l (i + 1) (putF d F r.1) S (⟨i, base + i, r.2⟩ :: ps) last Q := by unfold contA; rw [onSome_some]
theorem runD_call {f : Opd} {args : List Opd} (h : inMask last m = true) (hw : wpf fns (f.val F) (valsOf args F) ⟨(flush m ps S.h).2, S.nx⟩ fun v S1 => Same ⟨(flush m ps S.h).2, S.nx⟩ S1 ∧ runD fns W h0 base l (i + 1) (putF d F v) S1 (flush m ps S.h).1 (some i) Q) : runD fns W h0 base (⟨d, .x (.call f args), none, m⟩ :: l) i F S ps last Q := by
  rw [runD, if_pos (show wants none F = true from rfl)]; exact ⟨h, wpf_mono hw fun v S1 h => ⟨.inl h.1, h.2⟩⟩
theorem runD_g {op : AOp} {s : Nat} {b : Bool} : runD fns W h0 base (⟨d, op, some (s, b), m⟩ :: l) i F S ps last Q ↔ if isB (tmpV s F) b = true then runD fns W h0 base (⟨d, op, none, m⟩ :: l) i F S ps last Q else runD fns W h0 base l (i + 1) (putF d F .undef) S ps last Q := by
  conv => lhs; unfold runD
  rw [show wants (some (s, b)) F = isB (tmpV s F) b from rfl]
  split
  · conv => rhs; unfold runD
    rw [if_pos (show wants none F = true from rfl)]
  · rfl
theorem oldL_ld {agg : Bool} {n : Nat} {x : Opd} : OldL W base (.ld agg n x) F ↔ OldP W base (x.val F) := by
  constructor
  · rintro (⟨_, _, _, h, h2⟩ | ⟨_, _, _, _, _, _, h, _⟩)
    · cases h; exact h2
    · cases h
  · exact fun h => .inl ⟨_, _, _, rfl, h⟩
theorem oldP_ptr {b off : Nat} : OldP W base (.ptr b off) ↔ b < base ∧ ¬ W b := by
  constructor
  · rintro ⟨_, _, h, h2⟩; cases h; exact h2
  · exact fun h => ⟨_, _, rfl, h⟩
end

theorem stV : type_of% (And.intro @runD_nil (And.intro @runD_q (And.intro @runD_a (And.intro @runD_g (@wpo_aE))))) := And.intro @runD_nil (And.intro @runD_q (And.intro @runD_a (And.intro @runD_g (@wpo_aE))))
theorem stW : type_of% (And.intro @contD_some (And.intro @contA_some (And.intro @oldL_ld (And.intro @oldP_ptr (And.intro @flush_nil (And.intro (@List.length_cons AO) (And.intro (@List.length_nil AO) (And.intro (@List.length_cons AV) (And.intro (@List.length_nil AV) (And.intro (@List.length_cons Nat) (@List.length_nil Nat))))))))))) := And.intro @contD_some (And.intro @contA_some (And.intro @oldL_ld (And.intro @oldP_ptr (And.intro @flush_nil (And.intro (@List.length_cons AO) (And.intro (@List.length_nil AO) (And.intro (@List.length_cons AV) (And.intro (@List.length_nil AV) (And.intro (@List.length_cons Nat) (@List.length_nil Nat))))))))))
theorem sU : type_of% (And.intro stU stV) := And.intro stU stV
theorem sD : type_of% (And.intro stD stW) := And.intro stD stW
end Go.Ev.Gl

namespace Go.Ev.Gl
variable {fns : T AFn}

theorem bin_quo_t (e : EqT) {a b : Int} (hb : b ≠ 0) : binV .quo e (.int .i64 a) (.int .i64 b) = some (.int .i64 (IntKind.i64.wrap (a.tdiv b))) := by
  show intsBin .quo .i64 a .i64 b = _
  unfold intsBin
  rw [show isShift .quo = false from rfl, bsel_false, keq_refl, bsel_true]
  show iQuo .i64 a b = _
  unfold iQuo
  split
  · rename_i m n
    have h0 : Nat.beq n 0 = false := by
      rw [Bool.eq_false_iff]; intro h; rw [Nat.beq_eq] at h; subst h; exact hb rfl
    rw [h0, bsel_false, nat_eq]
    rfl
  · have h0 : ieq b (.ofNat 0) = false := by
      rw [Bool.eq_false_iff]; intro h; rw [ieq_eq] at h; exact hb (by simpa using h)
    rw [h0, bsel_false, wrapF_eq]
theorem bin_quo_i (e : EqT) {a b : Int} (ha : 0 ≤ a) (ha2 : a ≤ 9223372036854775807) (hb : 0 < b) : binV .quo e (.int .i64 a) (.int .i64 b) = some (.int .i64 (a / b)) := by
  rw [bin_quo_t e (by omega), Int.tdiv_eq_ediv_of_nonneg ha]
  rw [wrap_i64]
  · have := Int.ediv_nonneg ha (Int.le_of_lt hb); omega
  · have := Int.ediv_le_self b ha; omega
theorem un_neg_i (a : Int) : unV .neg (.int .i64 a) = some (.int .i64 (IntKind.i64.wrap (-a))) := by
  show some (AV.int .i64 (iSubV .i64 (.ofNat 0) a)) = _
  rw [iSubV_eq]
  congr 3
  show (0 : Int) - a = -a
  omega
def mx (a b : Int) : Int := if b ≤ a then a else b
theorem evQ_mm (l : List Opd) (F : Fr) (h : T AB) : evQ (.minmax true l) F h = minmaxL true (valsOf l F) := rfl
theorem mm_cons (v : AV) (l : List AV) : minmaxL true (v :: l) = minmaxV true l v := rfl
theorem mm_nil (v : AV) : minmaxV true [] v = some v := rfl
theorem mm_int (a b : Int) (l : List AV) : minmaxV true (.int .i64 b :: l) (.int .i64 a) = minmaxV true l (.int .i64 (mx a b)) := by
  show bsel (keq .i64 .i64) (minmaxV true l (.int .i64 (bsel true (bsel (ile b a) a b) _))) none = _
  rw [keq_refl, bsel_true, bsel_true]
  congr 2
  unfold mx
  rw [ile_eq]
  by_cases h : b ≤ a
  · rw [if_pos h, decide_eq_true h]; rfl
  · rw [if_neg h, decide_eq_false h]; rfl
theorem mx_lt {a b c : Int} : mx a b < c ↔ a < c ∧ b < c := by unfold mx; split <;> omega

def StepsI (S : St) (a b P E : Int) (k : Nat) (A : Act') (S' : St) : Prop :=
  A.inr = false ∧ S' = S ∧ ∃ p e w x y z, tmpV 0 A.F = .int .i64 p ∧ tmpV 1 A.F = .int .i64 e ∧ tmpV 4 A.F = .int .i64 w ∧ tmpV 5 A.F = .int .i64 x ∧ tmpV 6 A.F = .int .i64 y ∧ tmpV 7 A.F = .int .i64 z ∧ Leh a b P E p e w x y z ∧ (k : Int) = y * a + z * b

theorem steps_spec {S : St} {a b P E f g tens d : Int} (H : Has fns) (hb0 : 0 ≤ b) (hE : 0 ≤ E) (hEP : E ≤ P) (hP : P < 1000000000000000000) (hab : b ≤ a) (ht : 0 < tens) (hf : 0 ≤ f) (hfd : f < d) (hg : 0 ≤ g) (hgd : g < d) (ha : tens * a = P * d + f) (hb : tens * b = E * d + g) :
    wpf fns (.fn 83 [] []) [.int .i64 P, .int .i64 E] S fun r S' => S' = S ∧ ∃ p e w x y z, r = .tup [.int .i64 w, .int .i64 x, .int .i64 y, .int .i64 z] ∧ Leh a b P E p e w x y z := by
  refine wpf_fn H.f83 (by simp) ?_
  simp only [↓stU, stD, reduceEqDiff, ↓reduceIte]
  refine wsr ?_
  simp only [↓stU, stD, reduceEqDiff, ↓reduceIte]
  refine wsr ?_
  simp only [↓stU, stD, reduceEqDiff, ↓reduceIte]
  obtain ⟨bn, hbn⟩ := Int.eq_ofNat_of_zero_le hb0
  refine wpc_seq (wpc_mono (Q := fun o A' S' => o = .normal ∧ A'.inr = false ∧ S' = S ∧ ∃ p e w x y z, tmpV 4 A'.F = .int .i64 w ∧ tmpV 5 A'.F = .int .i64 x ∧ tmpV 6 A'.F = .int .i64 y ∧ tmpV 7 A'.F = .int .i64 z ∧ Leh a b P E p e w x y z) ?_ ?_)
  · refine wpc_block (wpc_loop (StepsI S a b P E) ?_ bn _ _ ⟨rfl, rfl, P, E, 1, 0, 0, 1, by simp only [↓stU, stD, reduceEqDiff, ↓reduceIte], by simp only [↓stU, stD, reduceEqDiff, ↓reduceIte], by simp only [↓stU, stD, reduceEqDiff, ↓reduceIte], by simp only [↓stU, stD, reduceEqDiff, ↓reduceIte], by simp only [↓stU, stD, reduceEqDiff, ↓reduceIte], by simp only [↓stU, stD, reduceEqDiff, ↓reduceIte], Leh.start hb0 hE hEP hP, by omega⟩)
    rintro k ⟨F, inr⟩ S' ⟨q0, hS', p, e, w, x, y, z, p0, p1, p4, p5, p6, p7, hL, hk⟩
    simp only at q0 p0 p1 p4 p5 p6 p7
    subst q0
    rw [hS']
    have hey := hL.ey
    have hez := hL.ez
    have hpw := hL.pw
    have hpx := hL.px
    have hsz := hL.size
    have we : IntKind.i64.wrap (e + y) = e + y := wrap_i64 (by omega) (by omega)
    have wz : IntKind.i64.wrap (e + z) = e + z := wrap_i64 (by omega) (by omega)
    have wpw : IntKind.i64.wrap (p + w) = p + w := wrap_i64 (by omega) (by omega)
    have wpx : IntKind.i64.wrap (p + x) = p + x := wrap_i64 (by omega) (by omega)
    have out : ∀ (F' : Fr), tmpV 4 F' = .int .i64 w → tmpV 5 F' = .int .i64 x → tmpV 6 F' = .int .i64 y → tmpV 7 F' = .int .i64 z → (∃ p e w x y z, tmpV 4 F' = .int .i64 w ∧ tmpV 5 F' = .int .i64 x ∧ tmpV 6 F' = .int .i64 y ∧ tmpV 7 F' = .int .i64 z ∧ Leh a b P E p e w x y z) := fun F' h1 h2 h3 h4 => ⟨p, e, w, x, y, z, h1, h2, h3, h4, hL⟩
    refine wss ?_
    by_cases h1 : e + y = 0
    · have d1 : decide (e + y ≠ 0) = false := decide_eq_false (by omega)
      simp only [↓stU, stD, reduceEqDiff, ↓reduceIte, p1, p6, we, d1]
      refine wpc_non (by simp only [↓stU, stD, reduceEqDiff, ↓reduceIte]) (wpc_exit ?_)
      simp only [↓stU, stD, reduceEqDiff, ↓reduceIte]
      exact out F p4 p5 p6 p7
    have d1 : decide (e + y ≠ 0) = true := decide_eq_true h1
    by_cases h2 : e + z = 0
    · have d2 : decide (e + z ≠ 0) = false := decide_eq_false (by omega)
      simp only [↓stU, stD, reduceEqDiff, ↓reduceIte, p1, p6, p7, we, wz, d1, d2]
      refine wpc_non (by simp only [↓stU, stD, reduceEqDiff, ↓reduceIte]) (wpc_exit ?_)
      simp only [↓stU, stD, reduceEqDiff, ↓reduceIte]
      exact out F p4 p5 p6 p7
    have d2 : decide (e + z ≠ 0) = true := decide_eq_true h2
    simp only [↓stU, stD, reduceEqDiff, ↓reduceIte, p1, p6, p7, we, wz, d1, d2]
    refine wpc_yes (by simp only [↓stU, stD, reduceEqDiff, ↓reduceIte]) (wpc_skip ?_)
    simp only [↓stU, stD, reduceEqDiff, ↓reduceIte]
    have q1 := bin_quo_i (.p .int) (a := p + w) (b := e + y) hpw.1 (by omega) (by omega)
    have q2 := bin_quo_i (.p .int) (a := p + x) (b := e + z) hpx.1 (by omega) (by omega)
    obtain ⟨q, hq⟩ : ∃ q, q = (p + w) / (e + y) := ⟨_, rfl⟩
    rw [← hq] at q1
    refine wpc_block (wpc_seq (wpc_reg ?_))
    simp only [↓stU, stD, reduceEqDiff, ↓reduceIte, p0, p1, p4, p6, we, wpw, q1]
    refine wss ?_
    simp only [↓stU, stD, reduceEqDiff, ↓reduceIte, p0, p1, p5, p7, wz, wpx, q2]
    by_cases h3 : q = (p + x) / (e + z)
    · have d3 : decide (q ≠ (p + x) / (e + z)) = false := decide_eq_false (by simp [h3])
      refine wpc_non (by simp only [↓stU, stD, reduceEqDiff, ↓reduceIte, d3]) (wpc_skip ?_)
      simp only [↓stU, stD, reduceEqDiff, ↓reduceIte]
      obtain ⟨⟨m1, m2, m3, m4, m5, m6⟩, hstep⟩ := hL.step hab ht hf hfd hg hgd ha hb h1 h2 hq h3
      have w1 : IntKind.i64.wrap (q * y) = q * y := wrap_i64 (by omega) (by omega)
      have w2 : IntKind.i64.wrap (q * z) = q * z := wrap_i64 (by omega) (by omega)
      have w3 : IntKind.i64.wrap (w - q * y) = w - q * y := wrap_i64 (by omega) (by omega)
      have w4 : IntKind.i64.wrap (x - q * z) = x - q * z := wrap_i64 (by omega) (by omega)
      have w5 : IntKind.i64.wrap (-(w - q * y)) = -(w - q * y) := wrap_i64 (by omega) (by omega)
      have w6 : IntKind.i64.wrap (-(x - q * z)) = -(x - q * z) := wrap_i64 (by omega) (by omega)
      have w7 : IntKind.i64.wrap (q * e) = q * e := wrap_i64 (by omega) (by omega)
      have hpp : 0 ≤ p ∧ p ≤ 1000000000000000000 := by rcases hL.signs with h | h <;> omega
      have w8 : IntKind.i64.wrap (p - q * e) = p - q * e := wrap_i64 (by omega) (by omega)
      refine wsr ?_
      simp only [↓stU, stD, reduceEqDiff, ↓reduceIte, p4, p5, p6, p7, w1, w2, w3, w4]
      refine wss ?_
      simp only [↓stU, stD, reduceEqDiff, ↓reduceIte, un_neg_i, w5, w6, evQ_mm, mm_cons, mm_int, mm_nil]
      by_cases h4 : mx (mx (mx (w - q * y) (-(w - q * y))) (x - q * z)) (-(x - q * z)) < 1000000000
      · have d4 : decide ((1000000000 : Int) ≤ mx (mx (mx (w - q * y) (-(w - q * y))) (x - q * z)) (-(x - q * z))) = false := decide_eq_false (by omega)
        refine wpc_non (by simp only [↓stU, stD, reduceEqDiff, ↓reduceIte, d4]) (wpc_skip ?_)
        simp only [↓stU, stD, reduceEqDiff, ↓reduceIte]
        rw [mx_lt, mx_lt, mx_lt] at h4
        obtain ⟨hL', hlt⟩ := hstep (by omega) (by omega) (by omega) (by omega)
        refine wsr ?_
        simp only [↓stU, stD, reduceEqDiff, ↓reduceIte, p6, p7]
        refine wpc_reg ?_
        simp only [↓stU, stD, reduceEqDiff, ↓reduceIte, p0, p1, w7, w8]
        have hlow := hL'.low
        obtain ⟨k', hk'⟩ := Int.eq_ofNat_of_zero_le hlow
        refine ⟨k', by omega, rfl, rfl, e, p - q * e, y, z, w - q * y, x - q * z, by simp only [↓stU, stD, reduceEqDiff, ↓reduceIte], by simp only [↓stU, stD, reduceEqDiff, ↓reduceIte], by simp only [↓stU, stD, reduceEqDiff, ↓reduceIte], by simp only [↓stU, stD, reduceEqDiff, ↓reduceIte], by simp only [↓stU, stD, reduceEqDiff, ↓reduceIte], by simp only [↓stU, stD, reduceEqDiff, ↓reduceIte], hL', by omega⟩
      · have d4 : decide ((1000000000 : Int) ≤ mx (mx (mx (w - q * y) (-(w - q * y))) (x - q * z)) (-(x - q * z))) = true := decide_eq_true (by omega)
        refine wpc_yes (by simp only [↓stU, stD, reduceEqDiff, ↓reduceIte, d4]) (wpc_exit ?_)
        simp only [↓stU, stD, reduceEqDiff, ↓reduceIte]
        exact out F p4 p5 p6 p7
    · have d3 : decide (q ≠ (p + x) / (e + z)) = true := decide_eq_true h3
      refine wpc_yes (by simp only [↓stU, stD, reduceEqDiff, ↓reduceIte, d3]) (wpc_exit ?_)
      simp only [↓stU, stD, reduceEqDiff, ↓reduceIte]
      exact out F p4 p5 p6 p7
  · rintro o ⟨F, inr⟩ S' ⟨rfl, q0, hS', p, e, w, x, y, z, p4, p5, p6, p7, hL⟩
    simp only at q0 p4 p5 p6 p7
    subst q0
    simp only [↓stU, stD, reduceEqDiff, ↓reduceIte]
    refine wsr ?_
    simp only [↓stU, stD, reduceEqDiff, ↓reduceIte, p4, p5, p6, p7]
    refine wpc_ret ?_
    simp only [↓stU, stD, reduceEqDiff, ↓reduceIte]
    exact ⟨hS', p, e, w, x, y, z, rfl, hL⟩
end Go.Ev.Gl

namespace Go.Ev.Gl
variable {fns : T AFn}

theorem mix_step {vd x va y vb c b ai bi w c' t : Int} (hinv : vd + c * b = x * va + y * vb) (ht : t = x * ai + c + y * bi) (hw : w + c' * 1000000000 = t) : (vd + b * w) + c' * (b * 1000000000) = x * (va + b * ai) + y * (vb + b * bi) := by
  have e : b * (w + c' * 1000000000) = b * (x * ai + c + y * bi) := by rw [hw, ht]
  grind

theorem tdivB (t : Int) : t.tdiv 1000000000 = t / 1000000000 ∨ t.tdiv 1000000000 = t / 1000000000 + 1 ∧ t % 1000000000 ≠ 0 := by
  rw [Int.tdiv_eq_ediv]
  by_cases h : 0 ≤ t ∨ (1000000000 : Int) ∣ t
  · rw [if_pos h]; exact .inl (by omega)
  · rw [if_neg h]
    refine .inr ⟨rfl, fun h2 => h (.inr (Int.dvd_of_emod_eq_zero h2))⟩

def MixI (S : St) (a b : AV) (l n : List Nat) (x y : Int) (k : Nat) (A : Act') (S' : St) : Prop :=
  A.inr = false ∧ ∃ (i : Nat) (d : List Nat) (c : Int), i + k = l.length ∧ d.length = i ∧ tmpV 0 A.F = a ∧ tmpV 1 A.F = b ∧ tmpV 2 A.F = .int .i64 x ∧ tmpV 3 A.F = .int .i64 y ∧ tmpV 9 A.F = .sl S.nx 0 l.length l.length false ∧ tmpV 10 A.F = .int .i64 c ∧ tmpV 17 A.F = .int .i64 ((l.length : Nat) : Int) ∧ tmpV 18 A.F = .int .i64 (i : Int) ∧
    Same S S' ∧ S.nx < S'.nx ∧ S'.h.get S.nx = some (.cells (cells32 (d ++ List.replicate (l.length - i) 0)) false 0) ∧ Small d ∧ -1000000000 ≤ c ∧ c ≤ 1000000000 ∧ (val d : Int) + c * ((B ^ i : Nat) : Int) = x * (val (l.take i) : Int) + y * (val (n.take i) : Int)

/-- opposite signs: the sum of products is short -/
theorem mix_small {x y p q : Int} (hx : -1000000000 < x ∧ x < 1000000000) (hy : -1000000000 < y ∧ y < 1000000000) (hs : 0 ≤ x ∧ y ≤ 0 ∨ x ≤ 0 ∧ 0 ≤ y) (hp : 0 ≤ p ∧ p < 1000000000) (hq : 0 ≤ q ∧ q < 1000000000) : -999999998000000001 ≤ x * p ∧ x * p ≤ 999999998000000001 ∧ -999999998000000001 ≤ y * q ∧ y * q ≤ 999999998000000001 ∧ -999999998000000001 ≤ x * p + y * q ∧ x * p + y * q ≤ 999999998000000001 := by
  have key : ∀ {u v : Int}, 0 ≤ u → u < 1000000000 → 0 ≤ v → v < 1000000000 → 0 ≤ u * v ∧ u * v ≤ 999999998000000001 := fun {u v} h1 h2 h3 h4 => by
    have a1 := Int.mul_nonneg h1 h3
    have a2 : u * v ≤ u * 999999999 := Int.mul_le_mul_of_nonneg_left (by omega) h1
    omega
  rcases hs with ⟨h1, h2⟩ | ⟨h1, h2⟩
  · have k1 := key h1 hx.2 hp.1 hp.2
    have k2 := key (u := -y) (by omega) (by omega) hq.1 hq.2
    rw [Int.neg_mul] at k2
    omega
  · have k1 := key (u := -x) (by omega) (by omega) hp.1 hp.2
    have k2 := key h2 hy.2 hq.1 hq.2
    rw [Int.neg_mul] at k1
    omega

theorem mix_spec {S : St} {a b : AV} {A Bv : Nat} {x y : Int} {R : Nat} (H : Has fns) (ha : NatIs S a A) (hb : NatIs S b Bv) (hA : Fits A) (hAB : Bv ≤ A) (hx : -1000000000 < x ∧ x < 1000000000) (hy : -1000000000 < y ∧ y < 1000000000) (hs : 0 ≤ x ∧ y ≤ 0 ∨ x ≤ 0 ∧ 0 ≤ y) (hR : (R : Int) = x * A + y * Bv) (hRA : R ≤ A) :
    wpf fns (.fn 86 [] []) [a, b, .int .i64 x, .int .i64 y] S fun r S' => NatIs S' r R ∧ Same S S' := by
  have hB : B = 1000000000 := rfl
  obtain ⟨l, ha, hl, rfl⟩ := ha
  obtain ⟨n, hb, hn, rfl⟩ := hb
  have hlen := Fits.len hl hA
  have hnl : n.length ≤ l.length := by
    rcases Nat.lt_or_ge l.length n.length with h | h
    · have := val_le_of_len hl.1 hn h; omega
    · exact h
  have hmk := fun F id (x : Opd) (hx : natOf (x.val F) = some l.length) => evA_mk (t := 102) (s := 1) (bytes := 4) (z := [AV.int .u32 0]) (l := x) (c := x) (F := F) (id := id) (n := l.length) hx hx (by unfold room; omega) (by unfold room; omega)
  refine wpf_fn H.f86 (by simp) ?_
  simp only [↓sU, sD, reduceEqDiff, ↓reduceIte, reduceAdd]
  refine wsr ?_
  simp only [↓sU, sD, reduceEqDiff, ↓reduceIte, reduceAdd]
  refine wsr ?_
  simp only [↓sU, sD, reduceEqDiff, ↓reduceIte, reduceAdd, ha.len]
  rw [hmk _ _ _ (by simp only [↓sU, sD, reduceEqDiff, ↓reduceIte, reduceAdd])]
  simp only [↓sU, sD, reduceEqDiff, ↓reduceIte, reduceAdd]
  refine wsr ?_
  simp only [↓sU, sD, reduceEqDiff, ↓reduceIte, reduceAdd]
  refine wss ?_
  simp only [↓sU, sD, reduceEqDiff, ↓reduceIte, reduceAdd, ha.len]
  refine wpc_mono (Q := fun o A' S' => o = .normal ∧ MixI S a b l n x y 0 A' S') ?_ ?_
  · refine wpc_block (wpc_loop (MixI S a b l n x y) ?_ l.length _ _ ⟨rfl, 0, [], 0, by omega, rfl, by simp only [↓sU, sD, reduceEqDiff, ↓reduceIte, reduceAdd], by simp only [↓sU, sD, reduceEqDiff, ↓reduceIte, reduceAdd], by simp only [↓sU, sD, reduceEqDiff, ↓reduceIte, reduceAdd], by simp only [↓sU, sD, reduceEqDiff, ↓reduceIte, reduceAdd], by simp only [↓sU, sD, reduceEqDiff, ↓reduceIte, reduceAdd], by simp only [↓sU, sD, reduceEqDiff, ↓reduceIte, reduceAdd], by simp only [↓sU, sD, reduceEqDiff, ↓reduceIte, reduceAdd], by simp only [↓sU, sD, reduceEqDiff, ↓reduceIte, reduceAdd], Same.alloc S _, by simp, ?_, Small.nil, by omega, by omega, by simp [val_nil]⟩)
    · rintro k ⟨F, inr⟩ S' ⟨q0, i, d, c, hik, hd, p0, p1, p2, p3, p9, p10, p17, p18, hS, hnx, hblk, hds, hc1, hc2, hinv⟩
      simp only at q0 p0 p1 p2 p3 p9 p10 p17 p18
      subst q0
      have ha' := ha.same hS
      have hb' := hb.same hS
      refine wsr ?_
      by_cases hi : i < l.length
      · have d1 : decide ((i : Int) < ((l.length : Nat) : Int)) = true := decide_eq_true (by omega)
        simp only [↓sU, sD, reduceEqDiff, ↓reduceIte, reduceAdd, p17, p18, d1]
        refine wpc_seq (wpc_yes (by simp only [↓sU, sD, reduceEqDiff, ↓reduceIte, reduceAdd]) (wpc_skip ?_))
        simp only [↓sU, sD, reduceEqDiff, ↓reduceIte, reduceAdd]
        have hld := ha'.ld hi
        rw [List.getD_eq_getElem?_getD] at hld
        have hxl := getD_lt hl.1 i
        have hyl := getD_lt hn.1 i
        have hyld : ∀ h : i < n.length, qLdV (elemP b i) false 1 S'.h = some (.int .u32 ((n[i]?.getD 0 : Nat) : Int)) := fun h => by
          have := hb'.ld h
          rwa [List.getD_eq_getElem?_getD] at this
        have hyz : ¬ i < n.length → n[i]?.getD 0 = 0 := fun h => by simp [show n.length ≤ i by omega]
        have ea := val_take_get l i
        have eb := val_take_get n i
        generalize l[i]?.getD 0 = ai at *
        generalize n[i]?.getD 0 = bi at *
        obtain ⟨s1, s2, s3, s4, s5, s6⟩ := mix_small (p := (ai : Int)) (q := (bi : Int)) hx hy hs (by omega) (by omega)
        have w1 : IntKind.i64.wrap (ai : Int) = (ai : Int) := wrap_i64 (by omega) (by omega)
        have w2 : IntKind.i64.wrap (x * (ai : Int)) = x * (ai : Int) := wrap_i64 (by omega) (by omega)
        have w3 : IntKind.i64.wrap (x * (ai : Int) + c) = x * (ai : Int) + c := wrap_i64 (by omega) (by omega)
        have w4 : IntKind.i64.wrap (bi : Int) = (bi : Int) := wrap_i64 (by omega) (by omega)
        have w5 : IntKind.i64.wrap (y * (bi : Int)) = y * (bi : Int) := wrap_i64 (by omega) (by omega)
        obtain ⟨t, ht⟩ : ∃ t, t = x * (ai : Int) + c + y * (bi : Int) := ⟨_, rfl⟩
        have w6 : IntKind.i64.wrap (x * (ai : Int) + c + y * (bi : Int)) = t := by rw [wrap_i64 (by omega) (by omega)]; exact ht.symm
        refine wpc_seq (wpc_block (wpc_seq (wpc_reg ?_)))
        simp only [↓sU, sD, reduceEqDiff, ↓reduceIte, reduceAdd, p18]
        refine wsr ?_
        simp only [↓sU, sD, reduceEqDiff, ↓reduceIte, reduceAdd, p0, p2, p10, ha'.iaddr hi, hld, w1, w2, w3]
        refine wpc_seq (wpc_mono (Q := fun o A' S'' => o = .normal ∧ S'' = S' ∧ A'.inr = false ∧ tmpV 0 A'.F = a ∧ tmpV 1 A'.F = b ∧ tmpV 2 A'.F = .int .i64 x ∧ tmpV 3 A'.F = .int .i64 y ∧ tmpV 9 A'.F = .sl S.nx 0 l.length l.length false ∧ tmpV 11 A'.F = .int .i64 (i : Int) ∧ tmpV 12 A'.F = .int .i64 t ∧ tmpV 17 A'.F = .int .i64 ((l.length : Nat) : Int) ∧ tmpV 18 A'.F = .int .i64 (i : Int)) ?_ ?_)
        · refine wsr ?_
          by_cases hin : i < n.length
          · have d2 : decide ((i : Int) < ((n.length : Nat) : Int)) = true := decide_eq_true (by omega)
            simp only [↓sU, sD, reduceEqDiff, ↓reduceIte, reduceAdd, p1, hb'.len, d2]
            refine wpc_yes (by simp only [↓sU, sD, reduceEqDiff, ↓reduceIte, reduceAdd]) (wpc_reg ?_)
            simp only [↓sU, sD, reduceEqDiff, ↓reduceIte, reduceAdd, p1, p3, hb'.iaddr hin, hyld hin, w4, w5, w6]
            exact ⟨p0, p2, p9, p17, p18⟩
          · have d2 : decide ((i : Int) < ((n.length : Nat) : Int)) = false := decide_eq_false (by omega)
            have hb0 := hyz hin
            simp only [↓sU, sD, reduceEqDiff, ↓reduceIte, reduceAdd, p1, hb'.len, d2]
            refine wpc_non (by simp only [↓sU, sD, reduceEqDiff, ↓reduceIte, reduceAdd]) (wpc_skip ?_)
            simp only [↓sU, sD, reduceEqDiff, ↓reduceIte, reduceAdd]
            refine ⟨p0, p1, p2, p3, p9, ?_, p17, p18⟩
            rw [ht, hb0]; simp
        rintro o ⟨F, inr⟩ S'' ⟨rfl, hS'', q0, p0, p1, p2, p3, p9, p11, p12, p17, p18⟩
        simp only at q0 p0 p1 p2 p3 p9 p11 p12 p17 p18
        subst q0
        rw [hS'']
        simp only [↓sU, sD, reduceEqDiff, ↓reduceIte, reduceAdd]
        have hquo := bin_quo_t (.p .int) (a := t) (b := 1000000000) (by decide)
        have htd := tdivB t
        generalize t.tdiv 1000000000 = q0 at *
        have w7 : IntKind.i64.wrap q0 = q0 := wrap_i64 (by omega) (by omega)
        have w8 : IntKind.i64.wrap (q0 * 1000000000) = q0 * 1000000000 := wrap_i64 (by omega) (by omega)
        have w9 : IntKind.i64.wrap (t - q0 * 1000000000) = t - q0 * 1000000000 := wrap_i64 (by omega) (by omega)
        rw [w7] at hquo
        refine wsr ?_
        simp only [↓sU, sD, reduceEqDiff, ↓reduceIte, reduceAdd, p12, hquo]
        refine wsr ?_
        simp only [↓sU, sD, reduceEqDiff, ↓reduceIte, reduceAdd, p12, w8, w9]
        obtain ⟨wn, hwn⟩ := Int.eq_ofNat_of_zero_le (Int.emod_nonneg t (show (1000000000 : Int) ≠ 0 by decide))
        refine wpc_seq (wpc_mono (Q := fun o A' S'' => o = .normal ∧ S'' = S' ∧ A'.inr = false ∧ tmpV 0 A'.F = a ∧ tmpV 1 A'.F = b ∧ tmpV 2 A'.F = .int .i64 x ∧ tmpV 3 A'.F = .int .i64 y ∧ tmpV 9 A'.F = .sl S.nx 0 l.length l.length false ∧ tmpV 10 A'.F = .int .i64 (t / 1000000000) ∧ tmpV 11 A'.F = .int .i64 (i : Int) ∧ tmpV 12 A'.F = .int .i64 (wn : Int) ∧ tmpV 17 A'.F = .int .i64 ((l.length : Nat) : Int) ∧ tmpV 18 A'.F = .int .i64 (i : Int)) ?_ ?_)
        · refine wsr ?_
          by_cases hneg : t - q0 * 1000000000 < 0
          · have d2 : decide (t - q0 * 1000000000 < 0) = true := decide_eq_true hneg
            have w10 : IntKind.i64.wrap (t - q0 * 1000000000 + 1000000000) = (wn : Int) := by rw [wrap_i64 (by omega) (by omega)]; omega
            have w11 : IntKind.i64.wrap (q0 - 1) = t / 1000000000 := by rw [wrap_i64 (by omega) (by omega)]; omega
            simp only [↓sU, sD, reduceEqDiff, ↓reduceIte, reduceAdd, d2]
            refine wpc_yes (by simp only [↓sU, sD, reduceEqDiff, ↓reduceIte, reduceAdd]) ?_
            refine wsr ?_
            simp only [↓sU, sD, reduceEqDiff, ↓reduceIte, reduceAdd, w10]
            refine wpc_reg ?_
            simp only [↓sU, sD, reduceEqDiff, ↓reduceIte, reduceAdd, w11]
            exact ⟨p0, p1, p2, p3, p9, p11, p17, p18⟩
          · have d2 : decide (t - q0 * 1000000000 < 0) = false := decide_eq_false hneg
            simp only [↓sU, sD, reduceEqDiff, ↓reduceIte, reduceAdd, d2]
            refine wpc_non (by simp only [↓sU, sD, reduceEqDiff, ↓reduceIte, reduceAdd]) (wpc_skip ?_)
            simp only [↓sU, sD, reduceEqDiff, ↓reduceIte, reduceAdd]
            exact ⟨p0, p1, p2, p3, p9, (by congr 1; omega), p11, (by congr 1; omega), p17, p18⟩
        rintro o ⟨F, inr⟩ S'' ⟨rfl, hS'', q0, p0, p1, p2, p3, p9, p10, p11, p12, p17, p18⟩
        simp only at q0 p0 p1 p2 p3 p9 p10 p11 p12 p17 p18
        subst q0
        rw [hS'']
        simp only [↓sU, sD, reduceEqDiff, ↓reduceIte, reduceAdd]
        have hwB : wn < B := by omega
        have w12 : IntKind.u32.wrap (wn : Int) = (wn : Int) := wrap_u32 (by omega) (by omega)
        have hiad : iaddrV (.slice 1) (.sl S.nx 0 l.length l.length false) i = some (.ptr S.nx i) := by rw [iaddr_own hi]; simp
        have hst := st_at (w := wn) hblk (p := i) (by simp [hd]; omega)
        have hset : (d ++ List.replicate (l.length - i) 0).set i wn = d ++ [wn] ++ List.replicate (l.length - (i + 1)) 0 := by rw [← hd]; exact set_zeros (by omega)
        rw [hset] at hst
        refine wpc_reg ?_
        simp only [↓sU, sD, reduceEqDiff, ↓reduceIte, reduceAdd, p9, p11, p12, w12, hiad]
        refine wpo_x (fun call => by simp only [↓sU, sD, reduceEqDiff, ↓reduceIte, reduceAdd, evX_st, cells_int]; exact hst) ?_
        simp only [↓sU, sD, reduceEqDiff, ↓reduceIte, reduceAdd]
        refine wpc_reg ?_
        have w13 : IntKind.i64.wrap ((i : Int) + 1) = ((i + 1 : Nat) : Int) := by rw [wrap_i64 (by omega) (by omega)]; omega
        simp only [↓sU, sD, reduceEqDiff, ↓reduceIte, reduceAdd, p18, w13]
        refine ⟨k - 1, by omega, rfl, i + 1, d ++ [wn], t / 1000000000, by omega, by simp [hd], by simp only [↓sU, sD, reduceEqDiff, ↓reduceIte, reduceAdd, p0], by simp only [↓sU, sD, reduceEqDiff, ↓reduceIte, reduceAdd, p1], by simp only [↓sU, sD, reduceEqDiff, ↓reduceIte, reduceAdd, p2], by simp only [↓sU, sD, reduceEqDiff, ↓reduceIte, reduceAdd, p3], by simp only [↓sU, sD, reduceEqDiff, ↓reduceIte, reduceAdd, p9], by simp only [↓sU, sD, reduceEqDiff, ↓reduceIte, reduceAdd, p10], by simp only [↓sU, sD, reduceEqDiff, ↓reduceIte, reduceAdd, p17], by simp only [↓sU, sD, reduceEqDiff, ↓reduceIte, reduceAdd], hS.put (Nat.le_refl _) _, hnx, ?_, Small.append.2 ⟨hds, small_one hwB⟩, by omega, by omega, ?_⟩
        · simp only
          rw [T.get_set, if_pos rfl]
        · rw [val_snoc, hd, ea, eb, Nat.pow_succ]
          simp only [Int.natCast_add, Int.natCast_mul]
          exact mix_step hinv ht (by rw [← hwn]; omega)
      · have ei : i = l.length := by omega
        have d1 : decide ((i : Int) < ((l.length : Nat) : Int)) = false := decide_eq_false (by omega)
        simp only [↓sU, sD, reduceEqDiff, ↓reduceIte, reduceAdd, p17, p18, d1]
        refine wpc_seq (wpc_non (by simp only [↓sU, sD, reduceEqDiff, ↓reduceIte, reduceAdd]) (wpc_exit ?_))
        simp only [↓sU, sD, reduceEqDiff, ↓reduceIte, reduceAdd]
        exact ⟨rfl, i, d, c, by omega, hd, by simp only [↓sU, sD, reduceEqDiff, ↓reduceIte, reduceAdd, p0], by simp only [↓sU, sD, reduceEqDiff, ↓reduceIte, reduceAdd, p1], by simp only [↓sU, sD, reduceEqDiff, ↓reduceIte, reduceAdd, p2], by simp only [↓sU, sD, reduceEqDiff, ↓reduceIte, reduceAdd, p3], by simp only [↓sU, sD, reduceEqDiff, ↓reduceIte, reduceAdd, p9], by simp only [↓sU, sD, reduceEqDiff, ↓reduceIte, reduceAdd, p10], by simp only [↓sU, sD, reduceEqDiff, ↓reduceIte, reduceAdd, p17], by simp only [↓sU, sD, reduceEqDiff, ↓reduceIte, reduceAdd, p18], hS, hnx, hblk, hds, hc1, hc2, hinv⟩
    · simp only
      rw [T.get_set, if_pos rfl, cells32_zeros]; simp
  · rintro o ⟨F, inr⟩ S' ⟨rfl, q0, i, d, c, hik, hd, p0, p1, p2, p3, p9, p10, p17, p18, hS, hnx, hblk, hds, hc1, hc2, hinv⟩
    simp only at q0 p9
    subst q0
    have ei : i = l.length := by omega
    subst ei
    rw [List.take_of_length_le (by omega), List.take_of_length_le (by omega), ← hR] at hinv
    have hval : val d = R := by
      have h1 := val_lt hds
      rw [hd] at h1
      have h2 := val_lt hl.1
      generalize B ^ l.length = Z at *
      rcases Int.lt_trichotomy c 0 with h | h | h
      · have : c * (Z : Int) ≤ (-1) * (Z : Int) := Int.mul_le_mul_of_nonneg_right (by omega) (by omega)
        omega
      · subst h; omega
      · have : 1 * (Z : Int) ≤ c * (Z : Int) := Int.mul_le_mul_of_nonneg_right (by omega) (by omega)
        omega
    rw [Nat.sub_self, List.replicate_zero, List.append_nil] at hblk
    have hout := limbs_own (n := l.length) (o' := false) (cap := l.length) hblk hnx (by omega) (Nat.le_refl _)
    simp only [↓sU, sD, reduceEqDiff, ↓reduceIte, reduceAdd]
    refine wsr ?_
    simp only [↓sU, sD, reduceEqDiff, ↓reduceIte, reduceAdd, p9]
    refine wpo_call ?_
    simp only [↓sU, sD, reduceEqDiff, ↓reduceIte, reduceAdd]
    refine wpf_mono (trim_spec H.f122 hout hds (by omega)) ?_
    rintro v S1 ⟨hN, hS1⟩
    rw [hS1]
    try simp only [↓sU, sD, reduceEqDiff, ↓reduceIte, reduceAdd]
    refine wpc_ret ?_
    simp only [↓sU, sD, reduceEqDiff, ↓reduceIte, reduceAdd]
    rw [← hval]
    exact ⟨hN, hS⟩
end Go.Ev.Gl

namespace Go.Ev.Gl
variable {fns : T AFn}

theorem ld_cell {S : St} {c : Nat} {v : AV} {o : Bool} {s : Nat} (h : S.h.get c = some (.cells [v] o s)) : qLdV (.ptr c 0) false 1 S.h = some v := by
  simp only [qLdV, loadV, bsel_false, load1, cellsAt, h, osel_some, cellsOfB, nth_eq]
  rfl
theorem st_cell {S : St} {c : Nat} {v w : AV} {o : Bool} {s : Nat} (h : S.h.get c = some (.cells [v] o s)) : xStV (.ptr c 0) 1 [w] S = some (.undef, ⟨S.h.set c (some (.cells [w] o s)), S.nx⟩) := by
  simp only [xStV, storeN, h, osel_some, storeB]
  rfl
theorem limb_cells {S : St} {v : AV} {l : List Nat} (h : LimbIs S v l) : v.cells = some [v] := by
  rcases h with ⟨_, h | h⟩ | ⟨b, off, cap, o, cs, rfl, _⟩
  · subst h; rfl
  · subst h; rfl
  · rfl
theorem evA_box (t : Nat) (x : Opd) (F : Fr) (id : Nat) : evA (.box t x) F id = osel (x.val F).cells fun cs => some (.ptr id 0, .cells cs false 0) := rfl
theorem evA_alloc (t : Nat) (cs : List AV) (F : Fr) (id : Nat) : evA (.alloc t cs) F id = some (.ptr id 0, .cells cs false 0) := rfl
theorem evQ_func (f : Nat) (first cap : List Opd) (F : Fr) (h : T AB) : evQ (.mkFunc f first cap) F h = some (.fn f (valsOf first F) (valsOf cap F)) := rfl
theorem limb_spec {S : St} {v : AV} {l : List Nat} {c i : Nat} (H : Has fns) (hl : LimbIs S v l) (hs : Small l) (hc : S.h.get c = some (.cells [v] false 0)) :
    wpf fns (.fn 118 [] [.ptr c 0]) [.int .i64 (i : Int)] S fun r S' => r = .int .u64 ((l[i]?.getD 0 : Nat) : Int) ∧ S' = S := by
  have hB : B = 1000000000 := rfl
  have hx := getD_lt hs i
  have w1 : IntKind.u64.wrap ((l[i]?.getD 0 : Nat) : Int) = ((l[i]?.getD 0 : Nat) : Int) := wrap_u64 (by omega) (by omega)
  refine wpf_fn H.f118 (by simp) ?_
  simp only [↓sU, sD, reduceEqDiff, ↓reduceIte, reduceAdd]
  refine wsr ?_
  simp only [↓sU, sD, reduceEqDiff, ↓reduceIte, reduceAdd]
  refine wss ?_
  simp only [↓sU, sD, reduceEqDiff, ↓reduceIte, reduceAdd, ld_cell hc, hl.len]
  by_cases hi : i < l.length
  · have hld := hl.ld hi
    rw [List.getD_eq_getElem?_getD] at hld
    refine wpc_yes (by simp only [↓sU, sD, reduceEqDiff, ↓reduceIte, reduceAdd, decide_eq_true (show (i : Int) < ((l.length : Nat) : Int) by omega)]) ?_
    refine wsr ?_
    simp only [↓sU, sD, reduceEqDiff, ↓reduceIte, reduceAdd, ld_cell hc, hl.iaddr hi, hld, w1]
    refine wpc_ret ?_
    simp only [↓sU, sD, reduceEqDiff, ↓reduceIte, reduceAdd]
  · refine wpc_non (by simp only [↓sU, sD, reduceEqDiff, ↓reduceIte, reduceAdd, decide_eq_false (show ¬ (i : Int) < ((l.length : Nat) : Int) by omega)]) (wpc_skip ?_)
    simp only [↓sU, sD, reduceEqDiff, ↓reduceIte, reduceAdd]
    refine wsr ?_
    simp only [↓sU, sD, reduceEqDiff, ↓reduceIte, reduceAdd]
    refine wpc_ret ?_
    have : l[i]?.getD 0 = 0 := by simp [show l.length ≤ i by omega]
    simp only [↓sU, sD, reduceEqDiff, ↓reduceIte, reduceAdd, this]

theorem first_spec {S : St} {v : AV} {l : List Nat} {c6 c7 n tens : Nat} (H : Has fns) (hl : LimbIs S v l) (hs : Small l) (h6 : S.h.get c6 = some (.cells [.int .i64 ((n + 3 : Nat) : Int)] false 0)) (h7 : S.h.get c7 = some (.cells [.int .u64 (tens : Int)] false 0)) (h6l : c6 < S.nx) (h7l : c7 < S.nx) (hn : n ≤ 100000)
    (ht : tens ≤ 1000000000) (hfit : (l[n + 2]?.getD 0 * 1000000000 + l[n + 1]?.getD 0) * tens + l[n]?.getD 0 * tens / 1000000000 < 1000000000000000000) :
    wpf fns (.fn 117 [] [.ptr c6 0, .ptr c7 0]) [v] S fun r S' => r = .int .i64 (((l[n + 2]?.getD 0 * 1000000000 + l[n + 1]?.getD 0) * tens + l[n]?.getD 0 * tens / 1000000000 : Nat) : Int) ∧ Same S S' := by
  have hB : B = 1000000000 := rfl
  have e1 := getD_lt hs (n + 2)
  have e2 := getD_lt hs (n + 1)
  have e3 := getD_lt hs n
  refine wpf_fn H.f117 (by simp) ?_
  simp only [↓sU, sD, reduceEqDiff, ↓reduceIte, reduceAdd]
  refine wsr ?_
  simp only [↓sU, sD, reduceEqDiff, ↓reduceIte, reduceAdd, evA_box, limb_cells hl]
  refine wsr ?_
  simp only [↓sU, sD, reduceEqDiff, ↓reduceIte, reduceAdd, evQ_func]
  have hS1 := Same.alloc S (.cells [v] false 0)
  obtain ⟨S1, hS1e⟩ : ∃ S1, S1 = (⟨S.h.set S.nx (some (.cells [v] false 0)), S.nx + 1⟩ : St) := ⟨_, rfl⟩
  rw [← hS1e] at hS1 ⊢
  have hnx1 : S1.nx = S.nx + 1 := by rw [hS1e]
  have hc3 : S1.h.get S.nx = some (.cells [v] false 0) := by rw [hS1e]; simp only; rw [T.get_set, if_pos rfl]
  have hl1 := hl.same hS1
  have h6' : S1.h.get c6 = some (.cells [.int .i64 ((n + 3 : Nat) : Int)] false 0) := by rw [hS1.2 _ h6l]; exact h6
  have h7' : S1.h.get c7 = some (.cells [.int .u64 (tens : Int)] false 0) := by rw [hS1.2 _ h7l]; exact h7
  have hS2 := Same.nx S1 22
  have wa : IntKind.i64.wrap (((n + 3 : Nat) : Int) - 1) = ((n + 2 : Nat) : Int) := by rw [wrap_i64 (by omega) (by omega)]; omega
  have wb : IntKind.i64.wrap (((n + 3 : Nat) : Int) - 2) = ((n + 1 : Nat) : Int) := by rw [wrap_i64 (by omega) (by omega)]; omega
  have wc : IntKind.i64.wrap (((n + 3 : Nat) : Int) - 3) = ((n : Nat) : Int) := by rw [wrap_i64 (by omega) (by omega)]; omega
  have sp := fun i => limb_spec (S := ⟨S1.h, S1.nx + 22⟩) (i := i) H (hl1.same hS2) hs hc3
  have lt6 : c6 < S1.nx := by omega
  have lt7 : c7 < S1.nx := by omega
  have sp1 := sp (n + 2)
  have sp2 := sp (n + 1)
  have sp3 := sp n
  clear sp
  generalize l[n + 2]?.getD 0 = x1 at *
  generalize l[n + 1]?.getD 0 = x2 at *
  generalize l[n]?.getD 0 = x3 at *
  have b1 : x1 * 1000000000 ≤ 999999999 * 1000000000 := Nat.mul_le_mul_right _ (by omega)
  have b3 : x3 * tens ≤ 999999999 * 1000000000 := Nat.mul_le_mul (by omega) (by omega)
  obtain ⟨u, hu⟩ : ∃ u, x1 * 1000000000 + x2 = u := ⟨_, rfl⟩
  rw [hu] at hfit ⊢
  have w1 : IntKind.u64.wrap ((x1 : Int) * 1000000000) = ((x1 * 1000000000 : Nat) : Int) := by rw [wrap_u64 (by omega) (by omega)]; omega
  have w2 : IntKind.u64.wrap (((x1 * 1000000000 : Nat) : Int) + (x2 : Int)) = (u : Int) := by rw [wrap_u64 (by omega) (by omega)]; omega
  have w3 : IntKind.u64.wrap ((u : Int) * (tens : Int)) = ((u * tens : Nat) : Int) := by rw [← Int.natCast_mul]; exact wrap_u64 (by omega) (by omega)
  have w4 : IntKind.u64.wrap ((x3 : Int) * (tens : Int)) = ((x3 * tens : Nat) : Int) := by rw [← Int.natCast_mul]; exact wrap_u64 (by omega) (by omega)
  have hquo := quoB (.p .int) (t := x3 * tens) (by omega)
  rw [hB] at hquo
  have w5 : IntKind.u64.wrap (((u * tens : Nat) : Int) + ((x3 * tens / 1000000000 : Nat) : Int)) = ((u * tens + x3 * tens / 1000000000 : Nat) : Int) := by rw [← Int.natCast_add]; exact wrap_u64 (by omega) (by omega)
  have w6 : IntKind.i64.wrap ((u * tens + x3 * tens / 1000000000 : Nat) : Int) = ((u * tens + x3 * tens / 1000000000 : Nat) : Int) := wrap_i64 (by omega) (by omega)
  refine wpc_seq (wpc_drd (fun _ => False) ?_)
  simp only [↓sU, sD, reduceEqDiff, ↓reduceIte, reduceAdd, ld_cell h6', lt6, wa, not_false_eq_true]
  refine runD_call rfl ?_
  simp only [↓sU, sD, reduceEqDiff, ↓reduceIte, reduceAdd]
  refine wpf_mono sp1 ?_
  rintro _ T ⟨rfl, hT⟩
  rw [hT]
  refine ⟨Same.refl _, ?_⟩
  simp only [↓sU, sD, reduceEqDiff, ↓reduceIte, reduceAdd, ld_cell h6', lt6, wb, w1, not_false_eq_true]
  refine runD_call rfl ?_
  simp only [↓sU, sD, reduceEqDiff, ↓reduceIte, reduceAdd]
  refine wpf_mono sp2 ?_
  rintro _ T ⟨rfl, hT⟩
  rw [hT]
  refine ⟨Same.refl _, ?_⟩
  simp only [↓sU, sD, reduceEqDiff, ↓reduceIte, reduceAdd, ld_cell h6', ld_cell h7', lt6, lt7, wc, w2, w3, not_false_eq_true]
  refine runD_call rfl ?_
  simp only [↓sU, sD, reduceEqDiff, ↓reduceIte, reduceAdd]
  refine wpf_mono sp3 ?_
  rintro _ T ⟨rfl, hT⟩
  rw [hT]
  refine ⟨Same.refl _, ?_⟩
  simp only [↓sU, sD, reduceEqDiff, ↓reduceIte, reduceAdd, ld_cell h7', lt7, w4, hquo, w5, w6, not_false_eq_true]
  refine wpc_ret ?_
  simp only [↓sU, sD, reduceEqDiff, ↓reduceIte, reduceAdd]
  exact hS1.trans hS2

def LeadI (S0 S : St) (a b : AV) (c6 c7 t : Nat) (n : Nat) (k : Nat) (A : Act') (S' : St) : Prop :=
  A.inr = false ∧ ∃ e, e + k = 8 ∧ t * 10 ^ e < 1000000000 ∧ tmpV 0 A.F = a ∧ tmpV 1 A.F = b ∧ tmpV 6 A.F = .ptr c6 0 ∧ tmpV 7 A.F = .ptr c7 0 ∧ Same S0 S' ∧ c6 < S'.nx ∧ c7 < S'.nx ∧ S'.h.get c6 = some (.cells [.int .i64 ((n + 3 : Nat) : Int)] false 0) ∧ S'.h.get c7 = some (.cells [.int .u64 ((10 ^ e : Nat) : Int)] false 0)

theorem pow10 {e : Nat} (h : e ≤ 8) : 10 ^ e * 10 ^ (9 - e) = 1000000000 := by rw [← Nat.pow_add, show e + (9 - e) = 9 by omega]

theorem val_top3 {l : List Nat} {n : Nat} (h : l.length ≤ n + 3) : val l = val (l.take n) + B ^ n * (l[n]?.getD 0 + B * (l[n + 1]?.getD 0 + B * l[n + 2]?.getD 0)) := by
  have e1 := val_take_get l (n + 2)
  have e2 := val_take_get l (n + 1)
  have e3 := val_take_get l n
  rw [List.take_of_length_le (by omega)] at e1
  rw [e1, e2, e3, Nat.pow_succ, Nat.pow_succ]
  grind

/-- the first digits of a number, as lead finds them -/
theorem lead_num {l : List Nat} {n e : Nat} (hl : Small l) (h : l.length ≤ n + 3) (he : e ≤ 8) : ∃ f, 10 ^ e * val l = ((l[n + 2]?.getD 0 * 1000000000 + l[n + 1]?.getD 0) * 10 ^ e + l[n]?.getD 0 * 10 ^ e / 1000000000) * (B ^ n * B) + f ∧ f < B ^ n * B := by
  have hlow : val (l.take n) < B ^ n := by
    have h1 := val_lt (hl.take n)
    have h2 : B ^ (l.take n).length ≤ B ^ n := Nat.pow_le_pow_right B_pos (by simp; omega)
    omega
  have := lead_first (l1 := l[n + 2]?.getD 0) (l2 := l[n + 1]?.getD 0) (l3 := l[n]?.getD 0) (low := val (l.take n)) (tens := 10 ^ e) (k := 10 ^ (9 - e)) (p := B ^ n) hlow (Nat.pow_pos (by decide)) (Nat.pow_pos (by decide))
  rw [pow10 he] at this
  rw [val_top3 h]
  exact this

theorem lead_le {P E d f g X Y : Nat} (h1 : X = P * d + f) (h2 : Y = E * d + g) (hf : f < d) (h : Y ≤ X) : E ≤ P := by
  rcases Nat.lt_or_ge P E with h3 | h3
  · have : (P + 1) * d ≤ E * d := Nat.mul_le_mul_right _ h3
    rw [Nat.add_mul] at this
    omega
  · exact h3

theorem lead_spec {S : St} {a b : AV} {x y : Nat} {l : List Nat} (H : Has fns) (ha : LimbIs S a l) (hl : Norm l) (hlx : val l = x) (hb : NatIs S b y) (hx : Fits x) (hyx : y ≤ x) (h3 : 3 ≤ l.length) :
    wpf fns (.fn 84 [] []) [a, b] S fun r S' => Same S S' ∧ ∃ P E f g tens d : Nat, r = .tup [.int .i64 (P : Int), .int .i64 (E : Int)] ∧ E ≤ P ∧ P < 1000000000000000000 ∧ 0 < tens ∧ f < d ∧ g < d ∧ tens * x = P * d + f ∧ tens * y = E * d + g := by
  have hB : B = 1000000000 := rfl
  obtain ⟨m, hb, hm, hmy⟩ := hb
  have hlen := Fits.len hl (by rw [hlx]; exact hx)
  have hml : m.length ≤ l.length := by
    rcases Nat.lt_or_ge l.length m.length with h | h
    · have := val_le_of_len hl.1 hm h; omega
    · exact h
  obtain ⟨n, hn⟩ : ∃ n, l.length = n + 3 := ⟨l.length - 3, by omega⟩
  have htl := getD_lt hl.1 (n + 2)
  have htp : 0 < l[n + 2]?.getD 0 := by
    have h2 : l[n + 2]? = l.getLast? := by rw [List.getLast?_eq_getElem?]; congr 1; omega
    rcases Nat.eq_zero_or_pos (l[n + 2]?.getD 0) with h | h
    · exfalso
      have h3 : n + 2 < l.length := by omega
      rw [List.getElem?_eq_getElem h3] at h h2
      simp at h
      exact hl.2 (by rw [← h2, h])
    · exact h
  refine wpf_fn H.f84 (by simp) ?_
  simp only [↓sU, sD, reduceEqDiff, ↓reduceIte, reduceAdd]
  refine wsr ?_
  simp only [↓sU, sD, reduceEqDiff, ↓reduceIte, reduceAdd]
  refine wsr ?_
  simp only [↓sU, sD, reduceEqDiff, ↓reduceIte, reduceAdd, ha.len, evA_alloc]
  refine wpo_x (fun call => by simp only [↓sU, sD, reduceEqDiff, ↓reduceIte, reduceAdd, evX_st, cells_int]; exact st_cell (v := .int .i64 0) (o := false) (s := 0) (by simp only; rw [T.get_set, if_pos rfl])) ?_
  simp only [↓sU, sD, reduceEqDiff, ↓reduceIte, reduceAdd]
  refine wsr ?_
  simp only [↓sU, sD, reduceEqDiff, ↓reduceIte, reduceAdd, evA_alloc]
  refine wpo_x (fun call => by simp only [↓sU, sD, reduceEqDiff, ↓reduceIte, reduceAdd, evX_st, cells_int]; exact st_cell (v := .int .u64 0) (o := false) (s := 0) (by simp only; rw [T.get_set, if_pos rfl])) ?_
  simp only [↓sU, sD, reduceEqDiff, ↓reduceIte, reduceAdd]
  have hld0 := fun (S' : St) (hS : Same S S') => (ha.same hS).ld (i := n + 2) (by omega)
  simp only [List.getD_eq_getElem?_getD] at hld0
  have hia0 := ha.iaddr (i := n + 2) (by omega)
  obtain ⟨t, ht⟩ : ∃ t, l[n + 2]?.getD 0 = t := ⟨_, rfl⟩
  rw [ht] at htl htp hld0
  rw [hn]
  refine wpc_seq (wpc_mono (Q := fun o A' S' => o = .normal ∧ ∃ k, LeadI S S a b S.nx (S.nx + 1) t n k A' S') ?_ ?_)
  · refine wpc_block (wpc_loop (LeadI S S a b S.nx (S.nx + 1) t n) ?_ 8 _ _ ⟨rfl, 0, rfl, by omega, by simp only [↓sU, sD, reduceEqDiff, ↓reduceIte, reduceAdd], by simp only [↓sU, sD, reduceEqDiff, ↓reduceIte, reduceAdd], by simp only [↓sU, sD, reduceEqDiff, ↓reduceIte, reduceAdd], by simp only [↓sU, sD, reduceEqDiff, ↓reduceIte, reduceAdd], ⟨by simp only; omega, fun c hc => ?_⟩, by simp only; omega, by simp only; omega, ?_, ?_⟩)
    · rintro k ⟨F, inr⟩ S' ⟨q0, e, hek, hte, p0, p1, p6, p7, hS, hn6, hn7, g6, g7⟩
      simp only at q0 p0 p1 p6 p7
      subst q0
      have wa : IntKind.i64.wrap (((n + 3 : Nat) : Int) - 1) = ((n + 2 : Nat) : Int) := by rw [wrap_i64 (by omega) (by omega)]; omega
      have wt : IntKind.u64.wrap (t : Int) = (t : Int) := wrap_u64 (by omega) (by omega)
      have w1 : IntKind.u64.wrap ((t : Int) * ((10 ^ e : Nat) : Int)) = ((t * 10 ^ e : Nat) : Int) := by rw [← Int.natCast_mul]; exact wrap_u64 (by omega) (by omega)
      have w2 : IntKind.u64.wrap (((t * 10 ^ e : Nat) : Int) * 10) = ((t * 10 ^ e * 10 : Nat) : Int) := by rw [wrap_u64 (by omega) (by omega)]; omega
      refine wpc_seq (wpc_seq (wpc_drq ?_))
      simp only [↓sU, sD, reduceEqDiff, ↓reduceIte, reduceAdd, p0, p6, p7, ld_cell g6, ld_cell g7, wa, hia0, hld0 S' hS, wt, w1, w2]
      by_cases hlt : t * 10 ^ e * 10 < 1000000000
      · refine wpc_yes (by simp only [↓sU, sD, reduceEqDiff, ↓reduceIte, reduceAdd, decide_eq_true (show ((t * 10 ^ e * 10 : Nat) : Int) < 1000000000 by omega)]) (wpc_skip ?_)
        simp only [↓sU, sD, reduceEqDiff, ↓reduceIte, reduceAdd]
        have hpe : 10 ^ (e + 1) = 10 ^ e * 10 := Nat.pow_succ ..
        have hle : 1 * (10 ^ e * 10) ≤ t * (10 ^ e * 10) := Nat.mul_le_mul_right _ htp
        have e4 : t * (10 ^ e * 10) = t * 10 ^ e * 10 := by rw [Nat.mul_assoc]
        have he8 : e < 8 := by
          rcases Nat.lt_or_ge e 8 with h | h
          · exact h
          · have : e = 8 := by omega
            subst this
            omega
        have w3 : IntKind.u64.wrap (((10 ^ e : Nat) : Int) * 10) = ((10 ^ (e + 1) : Nat) : Int) := by rw [hpe, wrap_u64 (by omega) (by omega)]; omega
        refine wpc_block (wpc_reg ?_)
        simp only [↓sU, sD, reduceEqDiff, ↓reduceIte, reduceAdd, p7, ld_cell (S := ⟨S'.h, S'.nx + 10⟩) g7, w3]
        refine wpo_x (fun call => by simp only [↓sU, sD, reduceEqDiff, ↓reduceIte, reduceAdd, evX_st, cells_int, p7]; exact st_cell (S := ⟨S'.h, _⟩) g7) ?_
        simp only [↓sU, sD, reduceEqDiff, ↓reduceIte, reduceAdd]
        refine ⟨k - 1, by omega, rfl, e + 1, by omega, by rw [hpe]; omega, by simp only [↓sU, sD, reduceEqDiff, ↓reduceIte, reduceAdd, p0], by simp only [↓sU, sD, reduceEqDiff, ↓reduceIte, reduceAdd, p1], by simp only [↓sU, sD, reduceEqDiff, ↓reduceIte, reduceAdd, p6], by simp only [↓sU, sD, reduceEqDiff, ↓reduceIte, reduceAdd, p7], ?_, by simp; omega, by simp; omega, ?_, ?_⟩
        · exact (hS.trans (Same.nx S' _)).put (by omega) _
        · simp only
          rw [T.get_set, if_neg (by omega)]; exact g6
        · simp only
          rw [T.get_set, if_pos rfl]
      · refine wpc_non (by simp only [↓sU, sD, reduceEqDiff, ↓reduceIte, reduceAdd, decide_eq_false (show ¬ ((t * 10 ^ e * 10 : Nat) : Int) < 1000000000 by omega)]) (wpc_exit ?_)
        simp only [↓sU, sD, reduceEqDiff, ↓reduceIte, reduceAdd]
        exact ⟨k, rfl, e, hek, hte, by simp only [↓sU, sD, reduceEqDiff, ↓reduceIte, reduceAdd, p0], by simp only [↓sU, sD, reduceEqDiff, ↓reduceIte, reduceAdd, p1], by simp only [↓sU, sD, reduceEqDiff, ↓reduceIte, reduceAdd, p6], by simp only [↓sU, sD, reduceEqDiff, ↓reduceIte, reduceAdd, p7], hS.trans (Same.nx S' _), by simp; omega, by simp; omega, g6, g7⟩
    · simp only
      rw [T.get_set, if_neg (by omega), T.get_set, if_neg (by omega), T.get_set, if_neg (by omega), T.get_set, if_neg (by omega)]
    · simp only
      rw [T.get_set, if_neg (by omega), T.get_set, if_neg (by omega), T.get_set, if_pos rfl]
    · simp only
      rw [T.get_set, if_pos rfl]; rfl
  · rintro o ⟨F, inr⟩ S' ⟨rfl, k, q0, e, hek, hte, p0, p1, p6, p7, hS, hn6, hn7, g6, g7⟩
    simp only at q0 p0 p1 p6 p7
    subst q0
    simp only [↓sU, sD, reduceEqDiff, ↓reduceIte, reduceAdd]
    refine wsr ?_
    simp only [↓sU, sD, reduceEqDiff, ↓reduceIte, reduceAdd, evQ_func, p6, p7]
    have he8 : e ≤ 8 := by omega
    have hp1 : 10 ^ e ≤ 1000000000 := by
      have := pow10 he8
      have h2 : 1 ≤ 10 ^ (9 - e) := Nat.pow_pos (by decide)
      have h3 : 10 ^ e * 1 ≤ 10 ^ e * 10 ^ (9 - e) := Nat.mul_le_mul_left _ h2
      omega
    have hmt : m[n + 2]?.getD 0 ≤ t := by
      rcases Nat.lt_or_ge t (m[n + 2]?.getD 0) with h | h
      · exfalso
        have v1 := val_top3 (l := l) (n := n) (by omega)
        have v2 := val_top3 (l := m) (n := n) (by omega)
        have := getD_lt hl.1 (n + 1)
        have := getD_lt hl.1 n
        rw [ht] at v1
        have hlow : val (l.take n) < B ^ n := by
          have h1 := val_lt (hl.1.take n)
          have h2 : B ^ (l.take n).length ≤ B ^ n := Nat.pow_le_pow_right B_pos (by simp; omega)
          omega
        generalize l[n + 1]?.getD 0 = l2 at *
        generalize l[n]?.getD 0 = l3 at *
        generalize m[n + 1]?.getD 0 = m2 at *
        generalize m[n]?.getD 0 = m3 at *
        generalize m[n + 2]?.getD 0 = m1 at *
        have k1 : l3 + B * (l2 + B * t) + 1 ≤ m3 + B * (m2 + B * m1) := by
          have a1 : B * (t + 1) ≤ B * m1 := Nat.mul_le_mul_left _ h
          have a2 : B * (l2 + B * t + 1) ≤ B * (m2 + B * m1) := Nat.mul_le_mul_left _ (by rw [Nat.mul_add] at a1; omega)
          rw [Nat.mul_add _ _ 1] at a2
          omega
        have k2 := Nat.mul_le_mul_left (B ^ n) k1
        rw [Nat.mul_add _ _ 1] at k2
        omega
      · exact h
    have hfit : ∀ (q : List Nat), Small q → q[n + 2]?.getD 0 ≤ t → (q[n + 2]?.getD 0 * 1000000000 + q[n + 1]?.getD 0) * 10 ^ e + q[n]?.getD 0 * 10 ^ e / 1000000000 < 1000000000000000000 := fun q hq hqt => by
      have h1 : q[n + 2]?.getD 0 * 10 ^ e ≤ t * 10 ^ e := Nat.mul_le_mul_right _ hqt
      have := lead_lt (l1 := q[n + 2]?.getD 0) (l2 := q[n + 1]?.getD 0) (l3 := q[n]?.getD 0) (low := 0) (tens := 10 ^ e) (k := 10 ^ (9 - e)) (p := 1) (by omega) (by rw [pow10 he8]; exact getD_lt hq n) (by rw [pow10 he8]; exact getD_lt hq (n + 1)) (by rw [pow10 he8]; omega)
      rw [pow10 he8] at this
      exact this
    refine wsr ?_
    simp only [↓sU, sD, reduceEqDiff, ↓reduceIte, reduceAdd, p0]
    refine wpo_call ?_
    simp only [↓sU, sD, reduceEqDiff, ↓reduceIte, reduceAdd]
    refine wpf_mono (first_spec (n := n) (tens := 10 ^ e) H (ha.same hS) hl.1 g6 g7 hn6 hn7 (by omega) hp1 (hfit l hl.1 (by omega))) ?_
    rintro _ S2 ⟨rfl, hS2⟩
    simp only [↓sU, sD, reduceEqDiff, ↓reduceIte, reduceAdd, p1]
    refine wpo_call ?_
    simp only [↓sU, sD, reduceEqDiff, ↓reduceIte, reduceAdd]
    have g6' : S2.h.get S.nx = some (.cells [.int .i64 ((n + 3 : Nat) : Int)] false 0) := by rw [hS2.2 _ hn6]; exact g6
    have g7' : S2.h.get (S.nx + 1) = some (.cells [.int .u64 ((10 ^ e : Nat) : Int)] false 0) := by rw [hS2.2 _ hn7]; exact g7
    refine wpf_mono (first_spec (n := n) (tens := 10 ^ e) H (hb.same (hS.trans hS2)) hm.1 g6' g7' (Nat.lt_of_lt_of_le hn6 hS2.1) (Nat.lt_of_lt_of_le hn7 hS2.1) (by omega) hp1 (hfit m hm.1 hmt)) ?_
    rintro _ S3 ⟨rfl, hS3⟩
    try simp only [↓sU, sD, reduceEqDiff, ↓reduceIte, reduceAdd]
    refine wpc_ret ?_
    simp only [↓sU, sD, reduceEqDiff, ↓reduceIte, reduceAdd]
    obtain ⟨f, hf1, hf2⟩ := lead_num (n := n) (e := e) hl.1 (by omega) he8
    obtain ⟨g, hg1, hg2⟩ := lead_num (n := n) (e := e) hm.1 (by omega) he8
    have hPl := hfit l hl.1 (by omega)
    exact ⟨hS.trans (hS2.trans hS3), _, _, f, g, 10 ^ e, B ^ n * B, rfl, lead_le hf1 hg1 hf2 (Nat.mul_le_mul_left _ (by omega)), hPl, Nat.pow_pos (by decide), hf2, hg2, by rw [← hlx]; exact hf1, by rw [← hmy]; exact hg1⟩
end Go.Ev.Gl

namespace Go.Ev.Gl
variable {fns : T AFn}

theorem ex3 (a b c d : AV) (l : List AV) : extractV (.tup (a :: b :: c :: d :: l)) 3 = some d := rfl

/-- a number of at most two limbs, as a word -/
theorem word_nat {S : St} {v : AV} {l : List Nat} (H : Has fns) (h : LimbIs S v l) (hl : Norm l) (hlen : l.length ≤ 2) : wpf fns (.fn 61 [] []) [v] S fun r S' => r = .int .u64 (val l : Int) ∧ S' = S := word_spec H.f61 h hl.1 hlen
theorem two_limbs {l : List Nat} (h : Small l) (hl : l.length ≤ 2) : val l < 1000000000000000000 := by
  have h1 := val_lt h
  have h2 : B ^ l.length ≤ B ^ 2 := Nat.pow_le_pow_right B_pos hl
  have h3 : B ^ 2 = 1000000000000000000 := by decide
  omega

def GcdI (S : St) (X g : Nat) (k : Nat) (A : Act') (S' : St) : Prop :=
  A.inr = false ∧ ∃ (x y : Nat) (a b : AV), tmpV 0 A.F = a ∧ tmpV 1 A.F = b ∧ NatIs S' a x ∧ NatIs S' b y ∧ y ≤ x ∧ x ≤ X ∧ Nat.gcd x y = g ∧ Same S S' ∧ k = y

theorem gcd_spec {S : St} {a b : AV} {x y : Nat} (H : Has fns) (hL : Laid S) (ha : NatIs S a x) (hb : NatIs S b y) (hx : Fits x) (hy : Fits y) :
    wpf fns (.fn 63 [] []) [a, b] S fun r S' => NatIs S' r (Nat.gcd x y) ∧ Same S S' := by
  have hB : B = 1000000000 := rfl
  obtain ⟨l, ha1, hl, hlx⟩ := id ha
  obtain ⟨m, hb1, hm, hmy⟩ := id hb
  have hlen := Fits.len hl (by rw [hlx]; exact hx)
  have hmen := Fits.len hm (by rw [hmy]; exact hy)
  refine wpf_fn H.f63 (by simp) ?_
  try simp only [↓sU, sD, reduceEqDiff, ↓reduceIte, reduceAdd]
  refine wsr ?_
  try simp only [↓sU, sD, reduceEqDiff, ↓reduceIte, reduceAdd]
  refine wss ?_
  have small : l.length ≤ 2 ∧ m.length ≤ 2 ∨ ¬ (l.length ≤ 2 ∧ m.length ≤ 2) := Decidable.em _
  rcases small with ⟨h1, h2⟩ | hbig
  · have d1 : decide (((l.length : Nat) : Int) ≤ 2) = true := decide_eq_true (by omega)
    have d2 : decide (((m.length : Nat) : Int) ≤ 2) = true := decide_eq_true (by omega)
    simp only [↓sU, sD, reduceEqDiff, ↓reduceIte, reduceAdd, ha1.len, hb1.len, d1, d2]
    refine wpc_yes (by simp only [↓sU, sD, reduceEqDiff, ↓reduceIte, reduceAdd]) ?_
    refine wsr ?_
    try simp only [↓sU, sD, reduceEqDiff, ↓reduceIte, reduceAdd]
    refine wpo_call ?_
    try simp only [↓sU, sD, reduceEqDiff, ↓reduceIte, reduceAdd]
    refine wpf_mono (word_nat H ha1 hl h1) ?_
    rintro _ T ⟨rfl, hT⟩
    rw [hT]
    try simp only [↓sU, sD, reduceEqDiff, ↓reduceIte, reduceAdd]
    refine wpo_call ?_
    try simp only [↓sU, sD, reduceEqDiff, ↓reduceIte, reduceAdd]
    refine wpf_mono (word_nat H hb1 hm h2) ?_
    rintro _ T ⟨rfl, hT⟩
    rw [hT]
    try simp only [↓sU, sD, reduceEqDiff, ↓reduceIte, reduceAdd]
    refine wpo_call ?_
    try simp only [↓sU, sD, reduceEqDiff, ↓reduceIte, reduceAdd]
    have k1 := two_limbs hl.1 h1
    have k2 := two_limbs hm.1 h2
    refine wpf_mono (binary_spec H hL (by omega) (by omega)) ?_
    rintro _ T ⟨rfl, hT⟩
    rw [hT]
    try simp only [↓sU, sD, reduceEqDiff, ↓reduceIte, reduceAdd]
    refine wpo_call ?_
    try simp only [↓sU, sD, reduceEqDiff, ↓reduceIte, reduceAdd]
    have k3 : Nat.gcd (val l) (val m) ≤ 18446744073709551615 := by
      rcases Nat.eq_zero_or_pos (val l) with h | h
      · rw [h, Nat.gcd_zero_left]; omega
      · have := Nat.gcd_le_left (val m) h; omega
    refine wpf_mono (of_spec H.f80 k3) ?_
    rintro r S' ⟨hr, hS'⟩
    try simp only [↓sU, sD, reduceEqDiff, ↓reduceIte, reduceAdd]
    refine wpc_ret ?_
    try simp only [↓sU, sD, reduceEqDiff, ↓reduceIte, reduceAdd]
    rw [← hlx, ← hmy]
    exact ⟨hr, hS'⟩
  have go1 : ∀ (Q : Fr → St → Prop) (F : Fr), tmpV 0 F = a → tmpV 1 F = b → (∀ F', tmpV 0 F' = a → tmpV 1 F' = b → tmpV 20 F' = .bool false → Q F' S) → wpo fns [⟨(some 13),(.q (.mv (.t 0))),none,0⟩, ⟨(some 14),(.q (.lenSl (.t 13))),none,0⟩, ⟨(some 15),(.q (.bin .leq (.p .int) (.t 14) (.c (.int .i64 (.ofNat 2))))),none,0⟩, ⟨(some 16),(.q (.mv (.t 15))),none,0⟩, ⟨(some 17),(.q (.mv (.t 1))),(some (16,true)),0⟩, ⟨(some 18),(.q (.lenSl (.t 17))),(some (16,true)),0⟩, ⟨(some 19),(.q (.bin .leq (.p .int) (.t 18) (.c (.int .i64 (.ofNat 2))))),(some (16,true)),0⟩, ⟨(some 20),(.q (.pick (.t 16) (.t 19) (.c (.bool false)))),none,0⟩] F S Q := by
    intro Q F p0 p1 hQ
    by_cases h1 : l.length ≤ 2
    · have d1 : decide (((l.length : Nat) : Int) ≤ 2) = true := decide_eq_true (by omega)
      have d2 : decide (((m.length : Nat) : Int) ≤ 2) = false := decide_eq_false (by omega)
      simp only [↓sU, sD, reduceEqDiff, ↓reduceIte, reduceAdd, p0, p1, ha1.len, hb1.len, d1, d2]
      exact hQ _ (by simp only [↓sU, sD, reduceEqDiff, ↓reduceIte, reduceAdd, p0]) (by simp only [↓sU, sD, reduceEqDiff, ↓reduceIte, reduceAdd, p1]) (by simp only [↓sU, sD, reduceEqDiff, ↓reduceIte, reduceAdd])
    · have d1 : decide (((l.length : Nat) : Int) ≤ 2) = false := decide_eq_false (by omega)
      simp only [↓sU, sD, reduceEqDiff, ↓reduceIte, reduceAdd, p0, p1, ha1.len, d1]
      exact hQ _ (by simp only [↓sU, sD, reduceEqDiff, ↓reduceIte, reduceAdd, p0]) (by simp only [↓sU, sD, reduceEqDiff, ↓reduceIte, reduceAdd, p1]) (by simp only [↓sU, sD, reduceEqDiff, ↓reduceIte, reduceAdd])
  refine go1 _ _ (by simp only [↓sU, sD, reduceEqDiff, ↓reduceIte, reduceAdd]) (by simp only [↓sU, sD, reduceEqDiff, ↓reduceIte, reduceAdd]) ?_
  intro F p0 p1 p20
  try simp only [↓sU, sD, reduceEqDiff, ↓reduceIte, reduceAdd]
  refine wpc_non (by simp only [↓sU, sD, reduceEqDiff, ↓reduceIte, reduceAdd, p20]) (wpc_skip ?_)
  try simp only [↓sU, sD, reduceEqDiff, ↓reduceIte, reduceAdd]
  refine wss ?_
  simp only [↓sU, sD, reduceEqDiff, ↓reduceIte, reduceAdd, p0]
  refine wpo_call ?_
  try simp only [↓sU, sD, reduceEqDiff, ↓reduceIte, reduceAdd]
  refine wpf_mono (isOne H.f62 ha1) ?_
  rintro _ T ⟨rfl, hT⟩
  rw [hT]
  by_cases h1 : l = [1]
  · have hg : Nat.gcd x y = 1 := by rw [← hlx, h1, val_one, Nat.gcd_one_left]
    simp only [↓sU, sD, reduceEqDiff, ↓reduceIte, reduceAdd, decide_eq_true h1]
    refine wpc_yes (by simp only [↓sU, sD, reduceEqDiff, ↓reduceIte, reduceAdd]) ?_
    refine wsr ?_
    refine wpo_call ?_
    try simp only [↓sU, sD, reduceEqDiff, ↓reduceIte, reduceAdd]
    refine wpf_mono (one_spec H.f81) ?_
    rintro r S' ⟨hr, hS'⟩
    try simp only [↓sU, sD, reduceEqDiff, ↓reduceIte, reduceAdd]
    refine wpc_ret ?_
    try simp only [↓sU, sD, reduceEqDiff, ↓reduceIte, reduceAdd]
    rw [hg]
    exact ⟨hr, hS'⟩
  simp only [↓sU, sD, reduceEqDiff, ↓reduceIte, reduceAdd, decide_eq_false h1, p1]
  refine wpo_call ?_
  try simp only [↓sU, sD, reduceEqDiff, ↓reduceIte, reduceAdd]
  refine wpf_mono (isOne H.f62 hb1) ?_
  rintro _ T ⟨rfl, hT⟩
  rw [hT]
  try simp only [↓sU, sD, reduceEqDiff, ↓reduceIte, reduceAdd]
  by_cases h2 : m = [1]
  · have hg : Nat.gcd x y = 1 := by rw [← hmy, h2, val_one, Nat.gcd_one_right]
    refine wpc_yes (by simp only [↓sU, sD, reduceEqDiff, ↓reduceIte, reduceAdd, decide_eq_true h2]) ?_
    refine wsr ?_
    refine wpo_call ?_
    try simp only [↓sU, sD, reduceEqDiff, ↓reduceIte, reduceAdd]
    refine wpf_mono (one_spec H.f81) ?_
    rintro r S' ⟨hr, hS'⟩
    try simp only [↓sU, sD, reduceEqDiff, ↓reduceIte, reduceAdd]
    refine wpc_ret ?_
    try simp only [↓sU, sD, reduceEqDiff, ↓reduceIte, reduceAdd]
    rw [hg]
    exact ⟨hr, hS'⟩
  refine wpc_non (by simp only [↓sU, sD, reduceEqDiff, ↓reduceIte, reduceAdd, decide_eq_false h2]) (wpc_skip ?_)
  try simp only [↓sU, sD, reduceEqDiff, ↓reduceIte, reduceAdd]
  refine wpc_seq (wpc_mono (Q := fun o A' S' => o = .normal ∧ GcdI S (max x y) (Nat.gcd x y) (min x y) A' S') ?_ ?_)
  · refine wsr ?_
    simp only [↓sU, sD, reduceEqDiff, ↓reduceIte, reduceAdd, p0, p1]
    refine wpo_call ?_
    try simp only [↓sU, sD, reduceEqDiff, ↓reduceIte, reduceAdd]
    refine wpf_mono (cmp_spec H.f82 ha hb hx) ?_
    rintro _ S1 ⟨rfl, hS1⟩
    simp only [↓sU, sD, reduceEqDiff, ↓reduceIte, reduceAdd, cmpI_lt]
    by_cases hlt : x < y
    · refine wpc_yes (by simp only [↓sU, sD, reduceEqDiff, ↓reduceIte, reduceAdd, decide_eq_true hlt]) (wpc_reg ?_)
      simp only [↓sU, sD, reduceEqDiff, ↓reduceIte, reduceAdd, p0, p1]
      exact ⟨rfl, y, x, b, a, by simp only [↓sU, sD, reduceEqDiff, ↓reduceIte, reduceAdd], by simp only [↓sU, sD, reduceEqDiff, ↓reduceIte, reduceAdd], hb.same hS1, ha.same hS1, by omega, by omega, Nat.gcd_comm y x, hS1, by omega⟩
    · refine wpc_non (by simp only [↓sU, sD, reduceEqDiff, ↓reduceIte, reduceAdd, decide_eq_false hlt]) (wpc_skip ?_)
      try simp only [↓sU, sD, reduceEqDiff, ↓reduceIte, reduceAdd]
      exact ⟨rfl, x, y, a, b, by simp only [↓sU, sD, reduceEqDiff, ↓reduceIte, reduceAdd, p0], by simp only [↓sU, sD, reduceEqDiff, ↓reduceIte, reduceAdd, p1], ha.same hS1, hb.same hS1, by omega, by omega, rfl, hS1, by omega⟩
  rintro o A' S' ⟨rfl, hI⟩
  try simp only [↓sU, sD, reduceEqDiff, ↓reduceIte, reduceAdd]
  have hFX : Fits (max x y) := by rcases Nat.le_total x y with h | h
                                  · rw [Nat.max_eq_right h]; exact hy
                                  · rw [Nat.max_eq_left h]; exact hx
  refine wpc_seq (wpc_mono (Q := fun o A' S' => o = .normal ∧ ∃ k, GcdI S (max x y) (Nat.gcd x y) k A' S' ∧ k < 1000000000000000000) ?_ ?_)
  · refine wpc_block (wpc_loop (GcdI S (max x y) (Nat.gcd x y)) ?_ _ _ _ hI)
    rintro k ⟨F, inr⟩ S' ⟨q0, x', y', a', b', p0, p1, ha', hb', hyx, hxX, hg, hS, rfl⟩
    simp only at q0 p0 p1
    subst q0
    have hx' := hFX.mono hxX
    obtain ⟨l', ha1, hl', hlx'⟩ := id ha'
    obtain ⟨m', hb1, hm', hmy'⟩ := id hb'
    have hml : m'.length ≤ l'.length := by
      rcases Nat.lt_or_ge l'.length m'.length with h | h
      · have := val_le_of_len hl'.1 hm' h; omega
      · exact h
    refine wss ?_
    simp only [↓sU, sD, reduceEqDiff, ↓reduceIte, reduceAdd, p1, hb1.len]
    by_cases h3 : 2 < m'.length
    · refine wpc_yes (by simp only [↓sU, sD, reduceEqDiff, ↓reduceIte, reduceAdd, decide_eq_true (show (2 : Int) < ((m'.length : Nat) : Int) by omega)]) (wpc_skip ?_)
      try simp only [↓sU, sD, reduceEqDiff, ↓reduceIte, reduceAdd]
      have hkp : 0 < k := by
        rcases Nat.eq_zero_or_pos k with h | h
        · have := (norm_zero hm').1 (by omega); subst this; simp at h3
        · exact h
      refine wpc_block (wpc_seq (wpc_reg ?_))
      simp only [↓sU, sD, reduceEqDiff, ↓reduceIte, reduceAdd, p0, p1]
      refine wpo_call ?_
      try simp only [↓sU, sD, reduceEqDiff, ↓reduceIte, reduceAdd]
      refine wpf_mono (lead_spec H ha1 hl' hlx' hb' hx' hyx (by omega)) ?_
      rintro _ S1 ⟨hS1, P, E, f, g, tens, d, rfl, hEP, hP, ht, hfd, hgd, ea, eb⟩
      simp only [↓sU, sD, reduceEqDiff, ↓reduceIte, reduceAdd, ex0, ex1]
      refine wpo_call ?_
      try simp only [↓sU, sD, reduceEqDiff, ↓reduceIte, reduceAdd]
      refine wpf_mono (steps_spec (a := (x' : Int)) (b := (k : Int)) (P := (P : Int)) (E := (E : Int)) (f := (f : Int)) (g := (g : Int)) (tens := (tens : Int)) (d := (d : Int)) H (by omega) (by omega) (by omega) (by omega) (by omega) (by omega) (by omega) (by omega) (by omega) (by omega) (by rw [← Int.natCast_mul, ea]; simp) (by rw [← Int.natCast_mul, eb]; simp)) ?_
      rintro _ T ⟨hT, p, e, w, xx, yy, z, rfl, hLeh⟩
      rw [hT]
      simp only [↓sU, sD, reduceEqDiff, ↓reduceIte, reduceAdd, ex0, ex1, ex2, ex3]
      refine wss ?_
      try simp only [↓sU, sD, reduceEqDiff, ↓reduceIte, reduceAdd]
      by_cases h0 : xx = 0
      · refine wpc_yes (by simp only [↓sU, sD, reduceEqDiff, ↓reduceIte, reduceAdd, decide_eq_true h0]) ?_
        refine wsr ?_
        simp only [↓sU, sD, reduceEqDiff, ↓reduceIte, reduceAdd, p0, p1]
        refine wpo_call ?_
        try simp only [↓sU, sD, reduceEqDiff, ↓reduceIte, reduceAdd]
        refine wpf_mono (div_spec H (ha'.same hS1) (hb'.same hS1) hx' hkp) ?_
        rintro _ S2 ⟨qv, rv, rfl, hq, hr, hS2⟩
        simp only [↓sU, sD, reduceEqDiff, ↓reduceIte, reduceAdd, ex0, ex1]
        refine wsr ?_
        simp only [↓sU, sD, reduceEqDiff, ↓reduceIte, reduceAdd, p1]
        refine wpc_exit ?_
        try simp only [↓sU, sD, reduceEqDiff, ↓reduceIte, reduceAdd]
        refine ⟨x' % k, Nat.mod_lt _ hkp, rfl, k, x' % k, b', rv, by simp only [↓sU, sD, reduceEqDiff, ↓reduceIte, reduceAdd], by simp only [↓sU, sD, reduceEqDiff, ↓reduceIte, reduceAdd], hb'.same (hS1.trans hS2), hr, Nat.le_of_lt (Nat.mod_lt _ hkp), by omega, ?_, hS.trans (hS1.trans hS2), rfl⟩
        rw [← hg, Nat.gcd_comm x' k, Nat.gcd_rec k x', Nat.gcd_comm]
      · refine wpc_non (by simp only [↓sU, sD, reduceEqDiff, ↓reduceIte, reduceAdd, decide_eq_false h0]) (wpc_skip ?_)
        try simp only [↓sU, sD, reduceEqDiff, ↓reduceIte, reduceAdd]
        have hlow := hLeh.low
        have hsz := hLeh.size
        rcases hLeh.made with h5 | ⟨h5, h6⟩
        · exact absurd h5.2.1 h0
        obtain ⟨na, hna⟩ := Int.eq_ofNat_of_zero_le (show 0 ≤ w * (x' : Int) + xx * (k : Int) by omega)
        obtain ⟨nb, hnb⟩ := Int.eq_ofNat_of_zero_le hlow
        have hgg := leh_gcd (a := x') (b := k) (a' := na) (b' := nb) hLeh.det hna.symm hnb.symm
        refine wpc_reg ?_
        simp only [↓sU, sD, reduceEqDiff, ↓reduceIte, reduceAdd, p0, p1]
        refine wpo_call ?_
        try simp only [↓sU, sD, reduceEqDiff, ↓reduceIte, reduceAdd]
        refine wpf_mono (mix_spec (R := na) H (ha'.same hS1) (hb'.same hS1) hx' hyx (by omega) (by omega) (by rcases hLeh.signs with h | h <;> omega) hna.symm (by omega)) ?_
        rintro va S2 ⟨hva, hS2⟩
        simp only [↓sU, sD, reduceEqDiff, ↓reduceIte, reduceAdd, p0, p1]
        refine wpo_call ?_
        try simp only [↓sU, sD, reduceEqDiff, ↓reduceIte, reduceAdd]
        refine wpf_mono (mix_spec (R := nb) H (ha'.same (hS1.trans hS2)) (hb'.same (hS1.trans hS2)) hx' hyx (by omega) (by omega) (by rcases hLeh.signs with h | h <;> omega) hnb.symm (by omega)) ?_
        rintro vb S3 ⟨hvb, hS3⟩
        try simp only [↓sU, sD, reduceEqDiff, ↓reduceIte, reduceAdd]
        exact ⟨nb, by omega, rfl, na, nb, va, vb, by simp only [↓sU, sD, reduceEqDiff, ↓reduceIte, reduceAdd], by simp only [↓sU, sD, reduceEqDiff, ↓reduceIte, reduceAdd], hva.same hS3, hvb, by omega, by omega, by rw [hgg]; exact hg, hS.trans (hS1.trans (hS2.trans hS3)), rfl⟩
    · refine wpc_non (by simp only [↓sU, sD, reduceEqDiff, ↓reduceIte, reduceAdd, decide_eq_false (show ¬ (2 : Int) < ((m'.length : Nat) : Int) by omega)]) (wpc_exit ?_)
      try simp only [↓sU, sD, reduceEqDiff, ↓reduceIte, reduceAdd]
      have := two_limbs hm'.1 (by omega)
      exact ⟨k, ⟨rfl, x', k, a', b', by simp only [↓sU, sD, reduceEqDiff, ↓reduceIte, reduceAdd, p0], by simp only [↓sU, sD, reduceEqDiff, ↓reduceIte, reduceAdd, p1], ha', hb', hyx, hxX, hg, hS, rfl⟩, by omega⟩
  · rintro o ⟨F, inr⟩ S' ⟨rfl, k, ⟨q0, x', y', a', b', p0, p1, ha', hb', hyx, hxX, hg, hS, rfl⟩, hk⟩
    simp only at q0 p0 p1
    subst q0
    have hx' := hFX.mono hxX
    obtain ⟨m', hb1, hm', hmy'⟩ := id hb'
    have hml : m'.length ≤ 2 := len_le hm' (by rw [hmy']; exact hk)
    try simp only [↓sU, sD, reduceEqDiff, ↓reduceIte, reduceAdd]
    refine wss ?_
    simp only [↓sU, sD, reduceEqDiff, ↓reduceIte, reduceAdd, p1, hb1.len]
    by_cases h0 : m'.length = 0
    · have hk0 : k = 0 := by rw [← hmy', List.length_eq_zero_iff.1 h0]; rfl
      refine wpc_yes (by simp only [↓sU, sD, reduceEqDiff, ↓reduceIte, reduceAdd, decide_eq_true (show ((m'.length : Nat) : Int) = 0 by omega)]) ?_
      refine wsr ?_
      simp only [↓sU, sD, reduceEqDiff, ↓reduceIte, reduceAdd, p0]
      refine wpo_call ?_
      try simp only [↓sU, sD, reduceEqDiff, ↓reduceIte, reduceAdd]
      refine wpf_mono (copy_nat H.f87 ha' hx') ?_
      rintro r S1 ⟨hr, hS1⟩
      try simp only [↓sU, sD, reduceEqDiff, ↓reduceIte, reduceAdd]
      refine wpc_ret ?_
      try simp only [↓sU, sD, reduceEqDiff, ↓reduceIte, reduceAdd]
      rw [hk0, Nat.gcd_zero_right] at hg
      rw [← hg]
      exact ⟨hr, hS.trans hS1⟩
    · have hkp : 0 < k := by
        rcases Nat.eq_zero_or_pos k with h | h
        · have := (norm_zero hm').1 (by omega); subst this; simp at h0
        · exact h
      refine wpc_non (by simp only [↓sU, sD, reduceEqDiff, ↓reduceIte, reduceAdd, decide_eq_false (show ¬ ((m'.length : Nat) : Int) = 0 by omega)]) (wpc_skip ?_)
      try simp only [↓sU, sD, reduceEqDiff, ↓reduceIte, reduceAdd]
      refine wsr ?_
      simp only [↓sU, sD, reduceEqDiff, ↓reduceIte, reduceAdd, p0, p1]
      refine wpo_call ?_
      try simp only [↓sU, sD, reduceEqDiff, ↓reduceIte, reduceAdd]
      refine wpf_mono (div_spec H ha' hb' hx' hkp) ?_
      rintro _ S2 ⟨qv, rv, rfl, hq, ⟨r, hr1, hr2, hr3⟩, hS2⟩
      simp only [↓sU, sD, reduceEqDiff, ↓reduceIte, reduceAdd, ex0, ex1]
      have hrk : x' % k < k := Nat.mod_lt _ hkp
      have hrl : r.length ≤ 2 := len_le hr2 (by rw [hr3]; exact Nat.lt_trans hrk hk)
      refine wsr ?_
      simp only [↓sU, sD, reduceEqDiff, ↓reduceIte, reduceAdd, p1]
      refine wpo_call ?_
      try simp only [↓sU, sD, reduceEqDiff, ↓reduceIte, reduceAdd]
      refine wpf_mono (word_nat H (hb1.same hS2) hm' hml) ?_
      rintro _ T ⟨rfl, hT⟩
      rw [hT]
      try simp only [↓sU, sD, reduceEqDiff, ↓reduceIte, reduceAdd]
      refine wpo_call ?_
      try simp only [↓sU, sD, reduceEqDiff, ↓reduceIte, reduceAdd]
      refine wpf_mono (word_nat H hr1 hr2 hrl) ?_
      rintro _ T ⟨rfl, hT⟩
      rw [hT]
      try simp only [↓sU, sD, reduceEqDiff, ↓reduceIte, reduceAdd]
      refine wpo_call ?_
      try simp only [↓sU, sD, reduceEqDiff, ↓reduceIte, reduceAdd]
      rw [hmy', hr3]
      refine wpf_mono (binary_spec H (hL.same (hS.trans hS2)) (by omega) (by omega)) ?_
      rintro _ T ⟨rfl, hT⟩
      rw [hT]
      try simp only [↓sU, sD, reduceEqDiff, ↓reduceIte, reduceAdd]
      refine wpo_call ?_
      try simp only [↓sU, sD, reduceEqDiff, ↓reduceIte, reduceAdd]
      have hgk : Nat.gcd k (x' % k) = Nat.gcd x y := by rw [← hg, Nat.gcd_comm x' k, Nat.gcd_rec k x', Nat.gcd_comm]
      have k3 : Nat.gcd k (x' % k) ≤ 18446744073709551615 := by
        have := Nat.gcd_le_left (x' % k) hkp; omega
      refine wpf_mono (of_spec H.f80 k3) ?_
      rintro r' S4 ⟨hr', hS4⟩
      try simp only [↓sU, sD, reduceEqDiff, ↓reduceIte, reduceAdd]
      refine wpc_ret ?_
      try simp only [↓sU, sD, reduceEqDiff, ↓reduceIte, reduceAdd]
      rw [← hgk]
      exact ⟨hr', hS.trans (hS2.trans hS4)⟩
end Go.Ev.Gl

namespace Go.Ev.Gl
variable {fns : T AFn}

/-! ## Structs in cells: rules -/
theorem cells_agg (cs : List AV) : (AV.agg cs).cells = some cs := rfl
theorem evQ_faddr (i : Nat) (x : Opd) (F : Fr) (h : T AB) : evQ (.faddr i x) F h = faddrV (x.val F) i := rfl
theorem faddr_ptr (b o i : Nat) : faddrV (.ptr b o) i = some (.ptr b (o + i)) := rfl
section
variable {h : T AB} {b : Nat} {x y z : AV} {o : Bool} {s : Nat}
theorem ld3_0 (hb : h.get b = some (.cells [x, y, z] o s)) : qLdV (.ptr b (0 + 0)) false 1 h = some x := by
  simp only [qLdV, loadV, bsel_false, load1, cellsAt, hb, osel_some, cellsOfB, nth_eq]; rfl
theorem ld3_1 (hb : h.get b = some (.cells [x, y, z] o s)) : qLdV (.ptr b (0 + 1)) false 1 h = some y := by
  simp only [qLdV, loadV, bsel_false, load1, cellsAt, hb, osel_some, cellsOfB, nth_eq]; rfl
theorem ld3_2 (hb : h.get b = some (.cells [x, y, z] o s)) : qLdV (.ptr b (0 + 2)) false 1 h = some z := by
  simp only [qLdV, loadV, bsel_false, load1, cellsAt, hb, osel_some, cellsOfB, nth_eq]; rfl
end
theorem xst_all {S : St} {b n : Nat} {cs cs' : List AV} {o : Bool} {s : Nat} (h : S.h.get b = some (.cells cs o s)) (h1 : cs.length = n) (h2 : cs'.length = n) : xStV (.ptr b 0) n cs' S = some (.undef, ⟨S.h.set b (some (.cells cs' o s)), S.nx⟩) := by
  have hp : put cs 0 cs' = some cs' := by
    rw [put_eq, if_pos (by omega)]
    simp [List.drop_of_length_le (show cs.length ≤ cs'.length by omega)]
  simp only [xStV, lenL_eq, h2, storeN, h, osel_some, storeB, hp]
  rw [show Nat.beq n n = true from Nat.beq_refl n]
  rfl

/-- a box, a cell, a store: what is known of the state behind it -/
theorem wpo_box {d t m : Nat} {x : Opd} {l : List AO} {F : Fr} {S : St} {Q : Fr → St → Prop} {cs : List AV} (hc : (x.val F).cells = some cs) (h : ∀ S1, Same S S1 → S1.nx = S.nx + 1 → S1.h.get S.nx = some (.cells cs false 0) → wpo fns l (putF (some d) F (.ptr S.nx 0)) S1 Q) : wpo fns (⟨some d, .a (.box t x), none, m⟩ :: l) F S Q := by
  rw [wpo_aE]
  refine ⟨(.ptr S.nx 0, .cells cs false 0), by rw [evA_box, hc]; rfl, h _ (Same.alloc S _) rfl ?_⟩
  simp only
  rw [T.get_set, if_pos rfl]
theorem wpo_alloc {d t m : Nat} {l : List AO} {F : Fr} {S : St} {Q : Fr → St → Prop} {cs : List AV} (h : ∀ S1, Same S S1 → S1.nx = S.nx + 1 → S1.h.get S.nx = some (.cells cs false 0) → wpo fns l (putF (some d) F (.ptr S.nx 0)) S1 Q) : wpo fns (⟨some d, .a (.alloc t cs), none, m⟩ :: l) F S Q := by
  rw [wpo_aE]
  refine ⟨(.ptr S.nx 0, .cells cs false 0), rfl, h _ (Same.alloc S _) rfl ?_⟩
  simp only
  rw [T.get_set, if_pos rfl]
theorem wpo_st {n m b s : Nat} {x v : Opd} {l : List AO} {F : Fr} {S : St} {Q : Fr → St → Prop} {cs cs' : List AV} {o : Bool} (hx : x.val F = .ptr b 0) (hv : (v.val F).cells = some cs') (hb : S.h.get b = some (.cells cs o s)) (h1 : cs.length = n) (h2 : cs'.length = n)
    (h : ∀ S1, SameBut b S S1 → S1.nx = S.nx → S1.h.get b = some (.cells cs' o s) → wpo fns l F S1 Q) : wpo fns (⟨none, .x (.st n x v), none, m⟩ :: l) F S Q := by
  refine wpo_x (v := .undef) (fun call => ?_) (h ⟨S.h.set b (some (.cells cs' o s)), S.nx⟩ ((SameBut.refl b S).put _) rfl ?_)
  · rw [evX_st, hv, osel_some, hx]; exact xst_all hb h1 h2
  · simp only
    rw [T.get_set, if_pos rfl]

/-! ### regions that draw their order, shorter -/
theorem wpc_drd1 (W : Nat → Prop) {ops : List AO} {A : Act'} {S : St} {Q : Out → Act' → St → Prop} (h : ∀ S1, Same S S1 → runD fns W S.h S.nx ops 0 A.F S1 [] none fun F S' ps => Q .normal ⟨F, A.inr⟩ ⟨(flush (2 ^ ops.length - 1) ps S'.h).2, S'.nx⟩) : wpc fns (.drw ops) A S Q := wpc_drd W (h _ (Same.nx S _))
section
variable {W : Nat → Prop} {h0 : T AB} {base : Nat} {d : Option Nat} {m i : Nat} {l : List AO} {F : Fr} {S : St} {last : Option Nat} {Q : Fr → St → List Pend → Prop}
theorem runD_call0 {f : Opd} {args : List Opd} (h : inMask last m = true) (hw : wpf fns (f.val F) (valsOf args F) S fun v S1 => Same S S1 ∧ runD fns W h0 base l (i + 1) (putF d F v) S1 [] (some i) Q) : runD fns W h0 base (⟨d, .x (.call f args), none, m⟩ :: l) i F S [] last Q :=
  runD_call h hw
end

/-! ## Values that are the same as themselves -/
/-- a store into a cell that holds no numbers -/
def noInt : List AV → Bool
  | [] => true
  | .int _ _ :: _ => false
  | _ :: l => noInt l
theorem noInt_get : ∀ {cs : List AV} {i : Nat} {k : IntKind} {n : Int}, noInt cs = true → cs[i]? ≠ some (.int k n)
  | [], i, k, n, _, h => by simp at h
  | c :: cs, 0, k, n, h, he => by
    simp at he
    subst he
    simp [noInt] at h
  | c :: cs, i + 1, k, n, h, he => by
    have : noInt cs = true := by
      cases c <;> simp only [noInt, Bool.false_eq_true] at h <;> exact h
    exact noInt_get this (by simpa using he)
theorem LimbIs.st {S S' : St} {v : AV} {l : List Nat} {b : Nat} {cs cs' : List AV} {o o' : Bool} {s s' : Nat} (h : LimbIs S v l) (hb : S.h.get b = some (.cells cs o s)) (hn : noInt cs = true) (hs : SameBut b S S') (hb' : S'.h.get b = some (.cells cs' o' s')) : LimbIs S' v l := by
  rcases h with h | ⟨c, off, cap, o1, ds, rfl, hc, hlt, hcs, hel⟩
  · exact .inl h
  · by_cases hcb : c = b
    · subst hcb
      refine .inr ⟨c, off, cap, o1, cs', rfl, hc, Nat.lt_of_lt_of_le hlt hs.1, by simp [cellsAt, hb', cellsOfB], fun i x hx => ?_⟩
      have h1 := hel i x hx
      have : ds = cs := by simpa [cellsAt, hb, cellsOfB] using hcs.symm
      subst this
      exact absurd h1 (noInt_get hn)
    · refine .inr ⟨c, off, cap, o1, ds, rfl, hc, Nat.lt_of_lt_of_le hlt hs.1, ?_, hel⟩
      unfold cellsAt
      rw [hs.2 c hlt hcb]
      exact hcs
theorem NatIs.st {S S' : St} {v : AV} {n : Nat} {b : Nat} {cs cs' : List AV} {o o' : Bool} {s s' : Nat} (h : NatIs S v n) (hb : S.h.get b = some (.cells cs o s)) (hn : noInt cs = true) (hs : SameBut b S S') (hb' : S'.h.get b = some (.cells cs' o' s')) : NatIs S' v n := by
  obtain ⟨l, h1, h2⟩ := h
  exact ⟨l, h1.st hb hn hs hb', h2⟩

/-! ## Rational numbers -/
def RatIs (S : St) (v : AV) (q : Rat) : Prop := ∃ nv dv, v = .agg [.bool (decide (q.num < 0)), nv, dv] ∧ NatIs S nv q.num.natAbs ∧ NatIs S dv q.den
def FitsR (q : Rat) : Prop := Fits q.num.natAbs ∧ Fits q.den
theorem RatIs.same {S S' : St} {v : AV} {q : Rat} (h : RatIs S v q) (hs : Same S S') : RatIs S' v q := by
  obtain ⟨nv, dv, h1, h2, h3⟩ := h
  exact ⟨nv, dv, h1, h2.same hs, h3.same hs⟩
theorem RatIs.st {S S' : St} {v : AV} {q : Rat} {b : Nat} {cs cs' : List AV} {o o' : Bool} {s s' : Nat} (h : RatIs S v q) (hb : S.h.get b = some (.cells cs o s)) (hn : noInt cs = true) (hs : SameBut b S S') (hb' : S'.h.get b = some (.cells cs' o' s')) : RatIs S' v q := by
  obtain ⟨nv, dv, h1, h2, h3⟩ := h
  exact ⟨nv, dv, h1, h2.st hb hn hs hb', h3.st hb hn hs hb'⟩
theorem RatIs.cells {S : St} {v : AV} {q : Rat} (h : RatIs S v q) : ∃ x y z, v = .agg [x, y, z] := by
  obtain ⟨nv, dv, h1, h2, h3⟩ := h
  exact ⟨_, _, _, h1⟩
/-! ## Coprime -/
theorem coprime_spec {S : St} {a b : AV} {x y : Nat} (H : Has fns) (hL : Laid S) (ha : NatIs S a x) (hb : NatIs S b y) (hx : Fits x) (hy : Fits y) :
    wpf fns (.fn 42 [] []) [a, b] S fun r S' => r = .bool (decide (Nat.gcd x y = 1)) ∧ Same S S' := by
  obtain ⟨l, ha1, hl, hlx⟩ := id ha
  obtain ⟨m, hb1, hm, hmy⟩ := id hb
  refine wpf_fn H.f42 (by simp) ?_
  simp only [↓sU, sD, reduceEqDiff, ↓reduceIte, reduceAdd]
  refine wsr ?_
  simp only [↓sU, sD, reduceEqDiff, ↓reduceIte, reduceAdd]
  refine wpc_seq (wpc_seq (wpc_mono (Q := fun o A' S' => o = .normal ∧ S' = S ∧ A'.inr = false ∧ tmpV 0 A'.F = a ∧ tmpV 1 A'.F = b ∧ tmpV 12 A'.F = .bool (decide (l.length ≤ 2 ∧ m.length ≤ 2))) ?_ ?_))
  · refine wpc_reg ?_
    by_cases h1 : l.length ≤ 2
    · have d1 : decide (((l.length : Nat) : Int) ≤ 2) = true := decide_eq_true (by omega)
      by_cases h2 : m.length ≤ 2
      · have d2 : decide (((m.length : Nat) : Int) ≤ 2) = true := decide_eq_true (by omega)
        simp only [↓sU, sD, reduceEqDiff, ↓reduceIte, reduceAdd, ha1.len, hb1.len, d1, d2]
        simp [h1, h2]
      · have d2 : decide (((m.length : Nat) : Int) ≤ 2) = false := decide_eq_false (by omega)
        simp only [↓sU, sD, reduceEqDiff, ↓reduceIte, reduceAdd, ha1.len, hb1.len, d1, d2]
        simp [h2]
    · have d1 : decide (((l.length : Nat) : Int) ≤ 2) = false := decide_eq_false (by omega)
      simp only [↓sU, sD, reduceEqDiff, ↓reduceIte, reduceAdd, ha1.len, d1]
      simp [h1]
  rintro o ⟨F, inr⟩ S' ⟨rfl, hS', q0, p0, p1, p12⟩
  simp only at q0 p0 p1 p12
  subst q0
  rw [hS']
  try simp only [↓sU, sD, reduceEqDiff, ↓reduceIte, reduceAdd]
  by_cases h12 : l.length ≤ 2 ∧ m.length ≤ 2
  · refine wpc_yes (by simp only [↓sU, sD, reduceEqDiff, ↓reduceIte, reduceAdd, p12, decide_eq_true h12]) ?_
    refine wsr ?_
    simp only [↓sU, sD, reduceEqDiff, ↓reduceIte, reduceAdd, p0]
    refine wpo_call ?_
    simp only [↓sU, sD, reduceEqDiff, ↓reduceIte, reduceAdd]
    refine wpf_mono (word_nat H ha1 hl h12.1) ?_
    rintro _ T ⟨rfl, hT⟩
    rw [hT]
    simp only [↓sU, sD, reduceEqDiff, ↓reduceIte, reduceAdd, p1]
    refine wpo_call ?_
    simp only [↓sU, sD, reduceEqDiff, ↓reduceIte, reduceAdd]
    refine wpf_mono (word_nat H hb1 hm h12.2) ?_
    rintro _ T ⟨rfl, hT⟩
    rw [hT]
    try simp only [↓sU, sD, reduceEqDiff, ↓reduceIte, reduceAdd]
    refine wpo_call ?_
    simp only [↓sU, sD, reduceEqDiff, ↓reduceIte, reduceAdd]
    have k1 := two_limbs hl.1 h12.1
    have k2 := two_limbs hm.1 h12.2
    refine wpf_mono (binary_spec H hL (by omega) (by omega)) ?_
    rintro _ T ⟨rfl, hT⟩
    rw [hT]
    try simp only [↓sU, sD, reduceEqDiff, ↓reduceIte, reduceAdd]
    refine wpc_ret ?_
    simp only [↓sU, sD, reduceEqDiff, ↓reduceIte, reduceAdd, hlx, hmy]
    refine ⟨?_, Same.refl _⟩
    congr 1
    exact decide_eq_decide.2 (by omega)
  · refine wpc_non (by simp only [↓sU, sD, reduceEqDiff, ↓reduceIte, reduceAdd, p12, decide_eq_false h12]) (wpc_skip ?_)
    simp only [↓sU, sD, reduceEqDiff, ↓reduceIte, reduceAdd]
    refine wsr ?_
    simp only [↓sU, sD, reduceEqDiff, ↓reduceIte, reduceAdd, p0, p1]
    refine wpo_call ?_
    simp only [↓sU, sD, reduceEqDiff, ↓reduceIte, reduceAdd]
    refine wpf_mono (gcd_spec H hL ha hb hx hy) ?_
    rintro g S1 ⟨⟨gl, hg1, hg2, hg3⟩, hS1⟩
    try simp only [↓sU, sD, reduceEqDiff, ↓reduceIte, reduceAdd]
    refine wpo_call ?_
    simp only [↓sU, sD, reduceEqDiff, ↓reduceIte, reduceAdd]
    refine wpf_mono (isOne H.f62 hg1) ?_
    rintro _ T ⟨rfl, hT⟩
    rw [hT]
    try simp only [↓sU, sD, reduceEqDiff, ↓reduceIte, reduceAdd]
    refine wpc_ret ?_
    simp only [↓sU, sD, reduceEqDiff, ↓reduceIte, reduceAdd]
    refine ⟨?_, hS1⟩
    congr 1
    exact decide_eq_decide.2 ((norm_val_one hg2).symm.trans (by rw [hg3]))

/-! ## Zero, Whole, Clone, Fits, over, words, Ratio -/
end Go.Ev.Gl

namespace Go.Ev.Gl
variable {fns : T AFn}

end Go.Ev.Gl

namespace Go.Ev.Gl
variable {fns : T AFn}

theorem norm_len0 {l : List Nat} (h : Norm l) : l.length = 0 ↔ val l = 0 := by rw [List.length_eq_zero_iff, norm_zero h]

end Go.Ev.Gl

namespace Go.Ev.Gl
variable {fns : T AFn}

theorem inv_rat {q : Rat} (h : q.num ≠ 0) : mkRat (sg (decide (q.num < 0)) q.den) q.num.natAbs = q⁻¹ := by
  symm
  apply Rat.inv_eq_of_mul_eq_one
  have hq := Rat.mkRat_self q
  conv => lhs; lhs; rw [← hq]
  rw [Rat.mkRat_mul_mkRat, show (1 : Rat) = mkRat 1 1 from rfl, Rat.mkRat_eq_iff (Nat.mul_ne_zero q.den_nz (by omega)) (by decide)]
  by_cases hn : q.num < 0
  · simp only [hn, decide_true, sg, if_true, Int.natCast_mul]
    have : (q.num.natAbs : Int) = -q.num := by omega
    rw [this]; grind
  · simp only [hn, decide_false, sg, Bool.false_eq_true, if_false, Int.natCast_mul]
    have : (q.num.natAbs : Int) = q.num := by omega
    rw [this]; grind

theorem lenpos {S : St} {v : AV} {n : Nat} (h : NatIs S v n) : ∃ k : Nat, lenSlV v = some (.int .i64 (k : Int)) ∧ (k = 0 ↔ n = 0) := by
  obtain ⟨l, h1, h2, h3⟩ := h
  exact ⟨l.length, h1.len, by rw [← h3]; exact norm_len0 h2⟩

theorem un_not (b : Bool) : unV .not (.bool b) = some (.bool (!b)) := by cases b <;> rfl

end Go.Ev.Gl

namespace Go.Ev.Gl
variable {fns : T AFn}

theorem nat0 : natOf (.int .i64 0) = some 0 := rfl
end Go.Ev.Gl
