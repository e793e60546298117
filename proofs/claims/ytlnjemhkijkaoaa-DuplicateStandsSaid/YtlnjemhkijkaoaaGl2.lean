/- Contracts (2): the greatest common divisor; rational numbers. -/
import Derived.Test.YtlnjemhkijkaoaaGl1
set_option maxHeartbeats 4000000
set_option linter.unusedSimpArgs false
set_option linter.unusedVariables false
namespace Go.Ev.Gl
variable {fns : T AFn}

/-! ## Regions that draw their order: calls that keep what lies there, loads of what lay there before -/
def inMask (last : Option Nat) (m : Nat) : Bool :=
  match last with
  | none => true
  | some i => Nat.testBit m i
def OldP (W : Nat → Prop) (base : Nat) (v : AV) : Prop := ∃ b off, v = .ptr b off ∧ b < base ∧ ¬ W b
def OldL (W : Nat → Prop) (base : Nat) (q : QOp) (F : Fr) : Prop := (∃ agg n x, q = .ld agg n x ∧ OldP W base (x.val F)) ∨ ∃ sk z ok m k b, q = .lookup sk z ok m k ∧ m.val F = .map b ∧ b < base ∧ ¬ W b
/-- what the region may not write is as it was -/
def OffW (W : Nat → Prop) (base : Nat) (S S' : St) : Prop := S.nx ≤ S'.nx ∧ ∀ b, b < base → ¬ W b → S'.h.get b = S.h.get b

def runD (fns : T AFn) (W : Nat → Prop) (h0 : T AB) (base : Nat) : List AO → Nat → Fr → St → List Pend → Option Nat → (Fr → St → List Pend → Prop) → Prop
  | [], _, F, S, ps, _, Q => Q F S ps
  | ⟨d, op, g, m⟩ :: l, i, F, S, ps, last, Q =>
    if wants g F = true then
      match op with
      | .q q => onSome (evQ q F (bsel (isLoad q) h0 S.h)) fun v => (isLoad q = true → sameV v v = true ∧ OldL W base q F) ∧ runD fns W h0 base l (i + 1) (putF d F v) S ps last Q
      | .a a => onSome (evA a F (base + i)) fun r => runD fns W h0 base l (i + 1) (putF d F r.1) S (⟨i, base + i, r.2⟩ :: ps) last Q
      | .x (.call f args) => inMask last m = true ∧ wpf fns (f.val F) (valsOf args F) ⟨(flush m ps S.h).2, S.nx⟩ fun v S1 => (Same ⟨(flush m ps S.h).2, S.nx⟩ S1 ∨ OffW W base ⟨(flush m ps S.h).2, S.nx⟩ S1) ∧ runD fns W h0 base l (i + 1) (putF d F v) S1 (flush m ps S.h).1 (some i) Q
      | .x (.inv tbl r args) => inMask last m = true ∧ ∃ t f u, r.val F = .iface t u ∧ findM t tbl = some (f, none) ∧ wpf fns (.fn f [u] []) (valsOf args F) ⟨(flush m ps S.h).2, S.nx⟩ fun v S1 => Same ⟨(flush m ps S.h).2, S.nx⟩ S1 ∧ runD fns W h0 base l (i + 1) (putF d F v) S1 (flush m ps S.h).1 (some i) Q
      | .x x => inMask last m = true ∧ ∃ v S1, (∀ call, evX x call F ⟨(flush m ps S.h).2, S.nx⟩ = some (v, S1)) ∧ OffW W base ⟨(flush m ps S.h).2, S.nx⟩ S1 ∧ runD fns W h0 base l (i + 1) (putF d F v) S1 (flush m ps S.h).1 (some i) Q
    else runD fns W h0 base l (i + 1) (putF d F .undef) S ps last Q

structure DOk (W : Nat → Prop) (h0 : T AB) (base : Nat) (D : DS) : Prop where
  cur : ∀ b, b < base → ¬ W b → D.S.h.get b = h0.get b
  nx : base ≤ D.S.nx
  chain : ∀ e ∈ D.hs, ∀ b, b < base → ¬ W b → e.2.2.get b = h0.get b
  lds : ∀ l ∈ D.ls, sameV l.v l.v = true ∧ OldL W base l.q l.F ∧ evQ l.q l.F h0 = some l.v
  pend : ∀ p ∈ D.ps, base ≤ p.id

theorem OldL.ev {W : Nat → Prop} {base : Nat} {q : QOp} {F : Fr} (h : OldL W base q F) {h0 h1 : T AB} (hh : ∀ b, b < base → ¬ W b → h1.get b = h0.get b) : evQ q F h1 = evQ q F h0 := by
  rcases h with ⟨agg, n, x, rfl, b, off, hx, hb, hw⟩ | ⟨sk, z, ok, m, k, b, rfl, hx, hb, hw⟩
  · rw [evQ_ld, evQ_ld, hx]
    have e : cellsAt h1 b = cellsAt h0 b := by unfold cellsAt; rw [hh b hb hw]
    simp only [qLdV, loadV, loadN, load1, e]
  · show (osel (mapAt h1 (m.val F)) fun es => _) = osel (mapAt h0 (m.val F)) fun es => _
    rw [hx]
    show (osel (osel (h1.get b) mapOfB) fun es => _) = osel (osel (h0.get b) mapOfB) fun es => _
    rw [hh b hb hw]

theorem flush_get {base b : Nat} (hb : b < base) {m : Nat} : ∀ {ps : List Pend} {h : T AB}, (∀ p ∈ ps, base ≤ p.id) → (flush m ps h).2.get b = h.get b
  | [], h, _ => rfl
  | p :: ps, h, hp => by
    have h1 := hp p (by simp)
    have h2 : ∀ q ∈ ps, base ≤ q.id := fun q hq => hp q (by simp [hq])
    unfold flush
    cases Nat.testBit m p.i with
    | true => rw [bsel_true, flush_get hb h2, T.get_set, if_neg (by omega)]
    | false => rw [bsel_false]; exact flush_get hb h2
theorem flush_mem {base : Nat} {m : Nat} : ∀ {ps : List Pend} {h : T AB}, (∀ p ∈ ps, base ≤ p.id) → ∀ p ∈ (flush m ps h).1, base ≤ p.id
  | [], h, _, p, hp => by cases hp
  | p :: ps, h, hq, r, hr => by
    have h2 : ∀ q ∈ ps, base ≤ q.id := fun q hx => hq q (by simp [hx])
    unfold flush at hr
    cases ht : Nat.testBit m p.i with
    | true => rw [ht, bsel_true] at hr; exact flush_mem h2 r hr
    | false =>
      rw [ht, bsel_false] at hr
      rcases List.mem_cons.1 hr with rfl | hr
      · exact hq r (by simp)
      · exact flush_mem h2 r hr

theorem loadGo_ok {W : Nat → Prop} {h0 : T AB} {base : Nat} {l : Loaded} (h : sameV l.v l.v = true ∧ OldL W base l.q l.F ∧ evQ l.q l.F h0 = some l.v) : ∀ {hs : List (Nat × Nat × T AB)} {h1 : T AB}, (∀ e ∈ hs, ∀ b, b < base → ¬ W b → e.2.2.get b = h0.get b) → (∀ b, b < base → ¬ W b → h1.get b = h0.get b) → loadGo l hs h1 = true
  | [], h1, _, hh => by
    show sameO l.v (evQ l.q l.F h1) = true
    rw [h.2.1.ev hh, h.2.2]; exact h.1
  | (i, m, h') :: r, h1, hs, hh => by
    have e1 : sameO l.v (evQ l.q l.F h1) = true := by rw [h.2.1.ev hh, h.2.2]; exact h.1
    have e2 : loadGo l r h' = true := loadGo_ok h (fun e he => hs e (by simp [he])) (hs (i, m, h') (by simp))
    unfold loadGo
    rw [e1, e2]
    cases Nat.testBit l.mask i <;> cases Nat.testBit m l.i <;> rfl

theorem loadsOk_of {h0 : T AB} {hs : List (Nat × Nat × T AB)} : ∀ {ls : List Loaded}, (∀ l ∈ ls, loadGo l hs h0 = true) → loadsOk h0 hs ls = true
  | [], _ => rfl
  | l :: ls, h => by rw [loadsOk_cons, h l (by simp), bsel_true]; exact loadsOk_of fun l' hl => h l' (by simp [hl])

theorem wpd_inv {d : Option Nat} {tbl : List (Nat × Nat × Option (Bool × Nat))} {recv : Opd} {args : List Opd} {m i base : Nat} {l : List AO} {D : DS} {Q : DS → Prop} {t f : Nat} {u : AV} (hr : recv.val D.F = .iface t u) (hf : findM t tbl = some (f, none)) (h : wpd fns (⟨d, .x (.call (.c (.fn f [u] [])) args), none, m⟩ :: l) i base D Q) : wpd fns (⟨d, .x (.inv tbl recv args), none, m⟩ :: l) i base D Q := by
  obtain ⟨n, D', e1, e2⟩ := h
  refine ⟨n, D', ?_, e2⟩
  have e : evD ⟨d, .x (.inv tbl recv args), none, m⟩ i base (ev fns n).call D = evD ⟨d, .x (.call (.c (.fn f [u] [])) args), none, m⟩ i base (ev fns n).call D := by
    show bsel (lastOk D.hs m) (osel (evX (.inv tbl recv args) (ev fns n).call D.F ⟨(flush m D.ps D.S.h).2, D.S.nx⟩) _) none = bsel (lastOk D.hs m) (osel (evX (.call (.c (.fn f [u] [])) args) (ev fns n).call D.F ⟨(flush m D.ps D.S.h).2, D.S.nx⟩) _) none
    rw [evX_inv hr hf]
  show osel (evD ⟨d, .x (.inv tbl recv args), none, m⟩ i base (ev fns n).call D) _ = _
  rw [e]
  exact e1
theorem runD_wpd {W : Nat → Prop} {h0 : T AB} {base : Nat} {Q : Fr → St → List Pend → Prop} : ∀ {ops : List AO} {i : Nat} {D : DS} {last : Option Nat}, DOk W h0 base D → D.hs.head?.map (·.1) = last → runD fns W h0 base ops i D.F D.S D.ps last Q →
    wpd fns ops i base D fun D' => Q D'.F D'.S D'.ps ∧ DOk W h0 base D'
  | [], i, D, last, hD, _, hr => by rw [wpd_nil]; exact ⟨hr, hD⟩
  | ⟨d, op, g, m⟩ :: l, i, D, last, hD, hlast, hr => by
    have hlk : inMask last m = true → lastOk D.hs m = true := fun h => by
      subst hlast
      cases hh : D.hs with
      | nil => rfl
      | cons e r => rw [hh] at h; exact h
    unfold runD at hr
    by_cases hw : wants g D.F = true
    · rw [if_pos hw] at hr
      have lift : wpd fns (⟨d, op, none, m⟩ :: l) i base D (fun D' => Q D'.F D'.S D'.ps ∧ DOk W h0 base D') → wpd fns (⟨d, op, g, m⟩ :: l) i base D (fun D' => Q D'.F D'.S D'.ps ∧ DOk W h0 base D') := by
        rintro ⟨n, D', e1, e2⟩
        refine ⟨n, D', ?_, e2⟩
        have : evD ⟨d, op, g, m⟩ i base (ev fns n).call D = evD ⟨d, op, none, m⟩ i base (ev fns n).call D := by
          show bsel (wants g D.F) _ _ = bsel true _ _
          rw [hw]
          cases op <;> rfl
        show osel (evD ⟨d, op, g, m⟩ i base (ev fns n).call D) _ = _
        rw [this]; exact e1
      apply lift
      cases op with
      | q q =>
        obtain ⟨v, hv, hs, hr⟩ := hr
        rw [wpd_qE]
        cases hq : isLoad q with
        | false =>
          rw [hq, bsel_false] at hv
          refine ⟨v, hv, ?_⟩
          simp only [bsel_false]
          exact runD_wpd (D := ⟨putF d D.F v, D.S, D.ps, D.hs, D.ls⟩) ⟨hD.cur, hD.nx, hD.chain, hD.lds, hD.pend⟩ hlast hr
        | true =>
          rw [hq, bsel_true] at hv
          obtain ⟨hs1, hs2⟩ := hs hq
          refine ⟨v, by rw [hs2.ev hD.cur]; exact hv, ?_⟩
          simp only [bsel_true]
          refine runD_wpd (D := ⟨putF d D.F v, D.S, D.ps, D.hs, ⟨q, D.F, v, i, m⟩ :: D.ls⟩) ⟨hD.cur, hD.nx, hD.chain, fun l' hl => ?_, hD.pend⟩ hlast hr
          rcases List.mem_cons.1 hl with rfl | hl
          · exact ⟨hs1, hs2, hv⟩
          · exact hD.lds l' hl
      | a a =>
        obtain ⟨r, hv, hr⟩ := hr
        rw [wpd_aE]
        refine ⟨r, hv, runD_wpd (D := ⟨putF d D.F r.1, D.S, ⟨i, base + i, r.2⟩ :: D.ps, D.hs, D.ls⟩) ⟨hD.cur, hD.nx, hD.chain, hD.lds, fun p hp => ?_⟩ hlast hr⟩
        rcases List.mem_cons.1 hp with rfl | hp
        · exact Nat.le_add_right _ _
        · exact hD.pend p hp
      | x x =>
        have next : ∀ (v : AV) (S1 : St), OffW W base ⟨(flush m D.ps D.S.h).2, D.S.nx⟩ S1 → DOk W h0 base ⟨putF d D.F v, S1, (flush m D.ps D.S.h).1, (i, m, S1.h) :: D.hs, D.ls⟩ := fun v S1 hS => by
          have hc : ∀ b, b < base → ¬ W b → S1.h.get b = h0.get b := fun b hb hw => by
            rw [hS.2 b hb hw]
            show (flush m D.ps D.S.h).2.get b = _
            rw [flush_get hb hD.pend]; exact hD.cur b hb hw
          refine ⟨hc, Nat.le_trans hD.nx hS.1, fun e he => ?_, hD.lds, flush_mem hD.pend⟩
          rcases List.mem_cons.1 he with rfl | he
          · exact hc
          · exact hD.chain e he
        have other : (∀ f args, x ≠ .call f args) → (∀ tbl r args, x ≠ .inv tbl r args) → (inMask last m = true ∧ ∃ v S1, (∀ call, evX x call D.F ⟨(flush m D.ps D.S.h).2, D.S.nx⟩ = some (v, S1)) ∧ OffW W base ⟨(flush m D.ps D.S.h).2, D.S.nx⟩ S1 ∧ runD fns W h0 base l (i + 1) (putF d D.F v) S1 (flush m D.ps D.S.h).1 (some i) Q) → wpd fns (⟨d, .x x, none, m⟩ :: l) i base D (fun D' => Q D'.F D'.S D'.ps ∧ DOk W h0 base D') := by
          rintro _ _ ⟨h1, v, S1, h2, h3, h4⟩
          exact wpd_x (hlk h1) h2 (runD_wpd (D := ⟨putF d D.F v, S1, (flush m D.ps D.S.h).1, (i, m, S1.h) :: D.hs, D.ls⟩) (next v S1 h3) rfl h4)
        cases x with
        | call f args =>
          obtain ⟨h1, n, v, S1, h2, h3, h4⟩ := hr
          refine wpd_call (hlk h1) ⟨n, v, S1, h2, ?_⟩
          exact runD_wpd (D := ⟨putF d D.F v, S1, (flush m D.ps D.S.h).1, (i, m, S1.h) :: D.hs, D.ls⟩) (next v S1 (h3.elim (fun h3 => ⟨h3.1, fun b hb _ => h3.2 b (Nat.lt_of_lt_of_le hb hD.nx)⟩) id)) rfl h4
        | inv tbl r args =>
          obtain ⟨h1, t, f, u, hu, hf, n, v, S1, h2, h3, h4⟩ := hr
          refine wpd_inv hu hf (wpd_call (hlk h1) ⟨n, v, S1, h2, ?_⟩)
          exact runD_wpd (D := ⟨putF d D.F v, S1, (flush m D.ps D.S.h).1, (i, m, S1.h) :: D.hs, D.ls⟩) (next v S1 ⟨h3.1, fun b hb _ => h3.2 b (Nat.lt_of_lt_of_le hb hD.nx)⟩) rfl h4
        | _ => exact other (fun _ _ h => by cases h) (fun _ _ _ h => by cases h) hr
    · rw [if_neg hw] at hr
      obtain ⟨n, D', e1, e2⟩ := runD_wpd (i := i + 1) (D := ⟨putF d D.F .undef, D.S, D.ps, D.hs, D.ls⟩) (last := last) ⟨hD.cur, hD.nx, hD.chain, hD.lds, hD.pend⟩ hlast hr
      refine ⟨n, D', ?_, e2⟩
      have : evD ⟨d, op, g, m⟩ i base (ev fns n).call D = some ⟨putF d D.F .undef, D.S, D.ps, D.hs, D.ls⟩ := by
        show bsel (wants g D.F) _ _ = _
        rw [show wants g D.F = false by simpa using hw]; rfl
      show osel (evD ⟨d, op, g, m⟩ i base (ev fns n).call D) _ = _
      rw [this]; exact e1

theorem wpc_drd (W : Nat → Prop) {ops : List AO} {A : Act'} {S : St} {Q : Out → Act' → St → Prop} (h : runD fns W S.h S.nx ops 0 A.F ⟨S.h, S.nx + ops.length⟩ [] none fun F S' ps => Q .normal ⟨F, A.inr⟩ ⟨(flush (2 ^ ops.length - 1) ps S'.h).2, S'.nx⟩) : wpc fns (.drw ops) A S Q := by
  refine wpc_drw ?_
  obtain ⟨n, D', e1, e2, e3⟩ := runD_wpd (fns := fns) (i := 0) (D := ⟨A.F, ⟨S.h, S.nx + ops.length⟩, [], [], []⟩) (last := none) ⟨fun _ _ _ => rfl, Nat.le_add_right _ _, fun e he => (by cases he), fun l hl => (by cases hl), fun p hp => (by cases hp)⟩ rfl h
  exact ⟨n, D', e1, loadsOk_of fun l hl => loadGo_ok (e3.lds l hl) (fun e he => e3.chain e (List.mem_reverse.1 he)) (fun _ _ _ => rfl), e2⟩

/-! ### the rules -/
def contD (fns : T AFn) (W : Nat → Prop) (h0 : T AB) (base : Nat) (x : Option AV) (ld : Bool) (old : Prop) (d : Option Nat) (l : List AO) (i : Nat) (F : Fr) (S : St) (ps : List Pend) (last : Option Nat) (Q : Fr → St → List Pend → Prop) : Prop := onSome x fun v => (ld = true → sameV v v = true ∧ old) ∧ runD fns W h0 base l i (putF d F v) S ps last Q
def contA (fns : T AFn) (W : Nat → Prop) (h0 : T AB) (base : Nat) (x : Option (AV × AB)) (d : Option Nat) (l : List AO) (i : Nat) (F : Fr) (S : St) (ps : List Pend) (last : Option Nat) (Q : Fr → St → List Pend → Prop) : Prop := onSome x fun r => runD fns W h0 base l (i + 1) (putF d F r.1) S (⟨i, base + i, r.2⟩ :: ps) last Q
section
variable {W : Nat → Prop} {h0 : T AB} {base : Nat} {d : Option Nat} {m i : Nat} {l : List AO} {F : Fr} {S : St} {ps : List Pend} {last : Option Nat} {Q : Fr → St → List Pend → Prop}
theorem runD_nil : runD fns W h0 base [] i F S ps last Q ↔ Q F S ps := Iff.rfl
theorem runD_q {q : QOp} : runD fns W h0 base (⟨d, .q q, none, m⟩ :: l) i F S ps last Q ↔ contD fns W h0 base (evQ q F (bsel (isLoad q) h0 S.h)) (isLoad q) (OldL W base q F) d l (i + 1) F S ps last Q := by
  rw [runD, if_pos (show wants none F = true from rfl)]; rfl
theorem contD_some {v : AV} {ld : Bool} {old : Prop} : contD fns W h0 base (some v) ld old d l i F S ps last Q ↔ (ld = true → sameV v v = true ∧ old) ∧ runD fns W h0 base l i (putF d F v) S ps last Q := by unfold contD; rw [onSome_some]
theorem runD_a {a : AlOp} : runD fns W h0 base (⟨d, .a a, none, m⟩ :: l) i F S ps last Q ↔ contA fns W h0 base (evA a F (base + i)) d l i F S ps last Q := by
  rw [runD, if_pos (show wants none F = true from rfl)]; rfl
theorem contA_some {r : AV × AB} : contA fns W h0 base (some r) d l i F S ps last Q ↔ runD fns W h0 base l (i + 1) (putF d F r.1) S (⟨i, base + i, r.2⟩ :: ps) last Q := by unfold contA; rw [onSome_some]
theorem runD_call {f : Opd} {args : List Opd} (h : inMask last m = true) (hw : wpf fns (f.val F) (valsOf args F) ⟨(flush m ps S.h).2, S.nx⟩ fun v S1 => Same ⟨(flush m ps S.h).2, S.nx⟩ S1 ∧ runD fns W h0 base l (i + 1) (putF d F v) S1 (flush m ps S.h).1 (some i) Q) : runD fns W h0 base (⟨d, .x (.call f args), none, m⟩ :: l) i F S ps last Q := by
  rw [runD, if_pos (show wants none F = true from rfl)]; exact ⟨h, wpf_mono hw fun v S1 h => ⟨.inl h.1, h.2⟩⟩
theorem runD_g {op : AOp} {s : Nat} {b : Bool} : runD fns W h0 base (⟨d, op, some (s, b), m⟩ :: l) i F S ps last Q ↔ if isB (tmpV s F) b = true then runD fns W h0 base (⟨d, op, none, m⟩ :: l) i F S ps last Q else runD fns W h0 base l (i + 1) (putF d F .undef) S ps last Q := by
  conv => lhs; unfold runD
  rw [show wants (some (s, b)) F = isB (tmpV s F) b from rfl]
  split
  · conv => rhs; unfold runD
    rw [if_pos (show wants none F = true from rfl)]
  · rfl
theorem oldL_ld {agg : Bool} {n : Nat} {x : Opd} : OldL W base (.ld agg n x) F ↔ OldP W base (x.val F) := by
  constructor
  · rintro (⟨_, _, _, h, h2⟩ | ⟨_, _, _, _, _, _, h, _⟩)
    · cases h; exact h2
    · cases h
  · exact fun h => .inl ⟨_, _, _, rfl, h⟩
theorem oldP_ptr {b off : Nat} : OldP W base (.ptr b off) ↔ b < base ∧ ¬ W b := by
  constructor
  · rintro ⟨_, _, h, h2⟩; cases h; exact h2
  · exact fun h => ⟨_, _, rfl, h⟩
end

theorem stV : type_of% (And.intro @runD_nil (And.intro @runD_q (And.intro @runD_a (And.intro @runD_g (@wpo_aE))))) := And.intro @runD_nil (And.intro @runD_q (And.intro @runD_a (And.intro @runD_g (@wpo_aE))))
theorem stW : type_of% (And.intro @contD_some (And.intro @contA_some (And.intro @oldL_ld (And.intro @oldP_ptr (And.intro @flush_nil (And.intro (@List.length_cons AO) (And.intro (@List.length_nil AO) (And.intro (@List.length_cons AV) (And.intro (@List.length_nil AV) (And.intro (@List.length_cons Nat) (@List.length_nil Nat))))))))))) := And.intro @contD_some (And.intro @contA_some (And.intro @oldL_ld (And.intro @oldP_ptr (And.intro @flush_nil (And.intro (@List.length_cons AO) (And.intro (@List.length_nil AO) (And.intro (@List.length_cons AV) (And.intro (@List.length_nil AV) (And.intro (@List.length_cons Nat) (@List.length_nil Nat))))))))))
theorem sU : type_of% (And.intro stU stV) := And.intro stU stV
theorem sD : type_of% (And.intro stD stW) := And.intro stD stW
end Go.Ev.Gl

namespace Go.Ev.Gl
variable {fns : T AFn}

theorem bin_quo_t (e : EqT) {a b : Int} (hb : b ≠ 0) : binV .quo e (.int .i64 a) (.int .i64 b) = some (.int .i64 (IntKind.i64.wrap (a.tdiv b))) := by
  show intsBin .quo .i64 a .i64 b = _
  unfold intsBin
  rw [show isShift .quo = false from rfl, bsel_false, keq_refl, bsel_true]
  show iQuo .i64 a b = _
  unfold iQuo
  split
  · rename_i m n
    have h0 : Nat.beq n 0 = false := by
      rw [Bool.eq_false_iff]; intro h; rw [Nat.beq_eq] at h; subst h; exact hb rfl
    rw [h0, bsel_false, nat_eq]
    rfl
  · have h0 : ieq b (.ofNat 0) = false := by
      rw [Bool.eq_false_iff]; intro h; rw [ieq_eq] at h; exact hb (by simpa using h)
    rw [h0, bsel_false, wrapF_eq]
theorem bin_quo_i (e : EqT) {a b : Int} (ha : 0 ≤ a) (ha2 : a ≤ 9223372036854775807) (hb : 0 < b) : binV .quo e (.int .i64 a) (.int .i64 b) = some (.int .i64 (a / b)) := by
  rw [bin_quo_t e (by omega), Int.tdiv_eq_ediv_of_nonneg ha]
  rw [wrap_i64]
  · have := Int.ediv_nonneg ha (Int.le_of_lt hb); omega
  · have := Int.ediv_le_self b ha; omega
end Go.Ev.Gl

namespace Go.Ev.Gl
variable {fns : T AFn}

end Go.Ev.Gl

namespace Go.Ev.Gl
variable {fns : T AFn}

theorem evA_box (t : Nat) (x : Opd) (F : Fr) (id : Nat) : evA (.box t x) F id = osel (x.val F).cells fun cs => some (.ptr id 0, .cells cs false 0) := rfl
end Go.Ev.Gl

namespace Go.Ev.Gl
variable {fns : T AFn}

end Go.Ev.Gl

namespace Go.Ev.Gl
variable {fns : T AFn}

/-! ## Structs in cells: rules -/
theorem cells_agg (cs : List AV) : (AV.agg cs).cells = some cs := rfl
theorem evQ_faddr (i : Nat) (x : Opd) (F : Fr) (h : T AB) : evQ (.faddr i x) F h = faddrV (x.val F) i := rfl
theorem faddr_ptr (b o i : Nat) : faddrV (.ptr b o) i = some (.ptr b (o + i)) := rfl
theorem isLoad_faddr (i : Nat) (x : Opd) : isLoad (.faddr i x) = false := rfl
theorem isLoad_build (z : List AV) (ps : List (Nat × Nat × Opd)) : isLoad (.build z ps) = false := rfl
section
variable {h : T AB} {b : Nat} {x y z : AV} {o : Bool} {s : Nat}
end
theorem xst_all {S : St} {b n : Nat} {cs cs' : List AV} {o : Bool} {s : Nat} (h : S.h.get b = some (.cells cs o s)) (h1 : cs.length = n) (h2 : cs'.length = n) : xStV (.ptr b 0) n cs' S = some (.undef, ⟨S.h.set b (some (.cells cs' o s)), S.nx⟩) := by
  have hp : put cs 0 cs' = some cs' := by
    rw [put_eq, if_pos (by omega)]
    simp [List.drop_of_length_le (show cs.length ≤ cs'.length by omega)]
  simp only [xStV, lenL_eq, h2, storeN, h, osel_some, storeB, hp]
  rw [show Nat.beq n n = true from Nat.beq_refl n]
  rfl

/-- a box, a cell, a store: what is known of the state behind it -/
theorem wpo_box {d t m : Nat} {x : Opd} {l : List AO} {F : Fr} {S : St} {Q : Fr → St → Prop} {cs : List AV} (hc : (x.val F).cells = some cs) (h : ∀ S1, Same S S1 → S1.nx = S.nx + 1 → S1.h.get S.nx = some (.cells cs false 0) → wpo fns l (putF (some d) F (.ptr S.nx 0)) S1 Q) : wpo fns (⟨some d, .a (.box t x), none, m⟩ :: l) F S Q := by
  rw [wpo_aE]
  refine ⟨(.ptr S.nx 0, .cells cs false 0), by rw [evA_box, hc]; rfl, h _ (Same.alloc S _) rfl ?_⟩
  simp only
  rw [T.get_set, if_pos rfl]
theorem wpo_alloc {d t m : Nat} {l : List AO} {F : Fr} {S : St} {Q : Fr → St → Prop} {cs : List AV} (h : ∀ S1, Same S S1 → S1.nx = S.nx + 1 → S1.h.get S.nx = some (.cells cs false 0) → wpo fns l (putF (some d) F (.ptr S.nx 0)) S1 Q) : wpo fns (⟨some d, .a (.alloc t cs), none, m⟩ :: l) F S Q := by
  rw [wpo_aE]
  refine ⟨(.ptr S.nx 0, .cells cs false 0), rfl, h _ (Same.alloc S _) rfl ?_⟩
  simp only
  rw [T.get_set, if_pos rfl]
/-! ### regions that draw their order, shorter -/
theorem wpc_drd1 (W : Nat → Prop) {ops : List AO} {A : Act'} {S : St} {Q : Out → Act' → St → Prop} (h : ∀ S1, Same S S1 → runD fns W S.h S.nx ops 0 A.F S1 [] none fun F S' ps => Q .normal ⟨F, A.inr⟩ ⟨(flush (2 ^ ops.length - 1) ps S'.h).2, S'.nx⟩) : wpc fns (.drw ops) A S Q := wpc_drd W (h _ (Same.nx S _))
section
variable {W : Nat → Prop} {h0 : T AB} {base : Nat} {d : Option Nat} {m i : Nat} {l : List AO} {F : Fr} {S : St} {last : Option Nat} {Q : Fr → St → List Pend → Prop}
theorem runD_call0 {f : Opd} {args : List Opd} (h : inMask last m = true) (hw : wpf fns (f.val F) (valsOf args F) S fun v S1 => Same S S1 ∧ runD fns W h0 base l (i + 1) (putF d F v) S1 [] (some i) Q) : runD fns W h0 base (⟨d, .x (.call f args), none, m⟩ :: l) i F S [] last Q :=
  runD_call h hw
end

/-! ## Values that are the same as themselves -/
/-! ## Rational numbers -/
/-! ## Coprime -/
/-! ## Zero, Whole, Clone, Fits, over, words, Ratio -/
end Go.Ev.Gl

namespace Go.Ev.Gl
variable {fns : T AFn}

end Go.Ev.Gl

namespace Go.Ev.Gl
variable {fns : T AFn}

end Go.Ev.Gl

namespace Go.Ev.Gl
variable {fns : T AFn}

theorem un_not (b : Bool) : unV .not (.bool b) = some (.bool (!b)) := by cases b <;> rfl

end Go.Ev.Gl

namespace Go.Ev.Gl
variable {fns : T AFn}

end Go.Ev.Gl
