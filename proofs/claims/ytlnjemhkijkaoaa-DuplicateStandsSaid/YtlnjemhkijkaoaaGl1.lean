/- Contracts of the program's functions on natural numbers in limbs (1). -/
import Derived.Test.YtlnjemhkijkaoaaGl0
import Derived.Test.YtlnjemhkijkaoaaIr0
import Derived.Test.YtlnjemhkijkaoaaIr1
import Derived.Test.YtlnjemhkijkaoaaIr2
import Derived.Test.YtlnjemhkijkaoaaIr3
set_option maxHeartbeats 4000000
set_option linter.unusedSimpArgs false
set_option linter.unusedVariables false
namespace Go.Ev.Gl
/-- the table holds these functions -/
structure Has (fns : T AFn) : Prop where
  f3 : fns.get 3 = some a3
  f5 : fns.get 5 = some a5
  f6 : fns.get 6 = some a6
  f7 : fns.get 7 = some a7
  f8 : fns.get 8 = some a8
  f12 : fns.get 12 = some a12
  f13 : fns.get 13 = some a13
  f14 : fns.get 14 = some a14
  f15 : fns.get 15 = some a15
  f16 : fns.get 16 = some a16
  f17 : fns.get 17 = some a17
  f18 : fns.get 18 = some a18
  f21 : fns.get 21 = some a21
  f22 : fns.get 22 = some a22
  f23 : fns.get 23 = some a23
  f25 : fns.get 25 = some a25
  f26 : fns.get 26 = some a26
  f27 : fns.get 27 = some a27
  f28 : fns.get 28 = some a28
  f29 : fns.get 29 = some a29
  f30 : fns.get 30 = some a30
  f31 : fns.get 31 = some a31
  f32 : fns.get 32 = some a32
  f33 : fns.get 33 = some a33
  f34 : fns.get 34 = some a34
  f35 : fns.get 35 = some a35
  f40 : fns.get 40 = some a40
  f41 : fns.get 41 = some a41
  f42 : fns.get 42 = some a42
  f43 : fns.get 43 = some a43
  f44 : fns.get 44 = some a44
  f49 : fns.get 49 = some a49
end Go.Ev.Gl
namespace Go.Ev.Gl
variable {fns : T AFn}

end Go.Ev.Gl

namespace Go.Ev.Gl
variable {fns : T AFn}

end Go.Ev.Gl

namespace Go.Ev.Gl
variable {fns : T AFn}

/-! ## A slice of one's own -/
/-! ## Sub -/
end Go.Ev.Gl

namespace Go.Ev.Gl
variable {fns : T AFn}

end Go.Ev.Gl

namespace Go.Ev.Gl
variable {fns : T AFn}

/-! ## append, one by one -/
theorem evX_app (t size bytes : Nat) (s x : Opd) (call : CallF) (F : Fr) (S : St) : evX (.app t size bytes s x) call F S = appendV bytes size (s.val F) (x.val F) S := rfl
attribute [simp] evX_app

end Go.Ev.Gl

namespace Go.Ev.Gl
variable {fns : T AFn}

/-! ## Mul -/
end Go.Ev.Gl

namespace Go.Ev.Gl
variable {fns : T AFn}

end Go.Ev.Gl

namespace Go.Ev.Gl
variable {fns : T AFn}

/-! ## append beyond the room: the block is given up -/
end Go.Ev.Gl

namespace Go.Ev.Gl
variable {fns : T AFn}

end Go.Ev.Gl

namespace Go.Ev.Gl
variable {fns : T AFn}

end Go.Ev.Gl

namespace Go.Ev.Gl
variable {fns : T AFn}

end Go.Ev.Gl

namespace Go.Ev.Gl
variable {fns : T AFn}

end Go.Ev.Gl

namespace Go.Ev.Gl
variable {fns : T AFn}

/-! ## Regions that draw their order, of plain operations alone -/
def runQ : List AO → Fr → T AB → (Fr → Prop) → Prop
  | [], F, _, Q => Q F
  | ⟨d, .q q, g, _⟩ :: l, F, h, Q => if wants g F = true then onSome (evQ q F h) fun v => (isLoad q = true → sameV v v = true) ∧ runQ l (putF d F v) h Q else runQ l (putF d F .undef) h Q
  | _ :: _, _, _, _ => False

theorem runQ_wpd {h : T AB} {base : Nat} {Q : Fr → Prop} : ∀ {ops : List AO} {i : Nat} {D : DS}, D.S.h = h → D.hs = [] → D.ps = [] → loadsOk h [] D.ls = true → runQ ops D.F h Q →
    wpd fns ops i base D fun D' => Q D'.F ∧ D'.S = D.S ∧ D'.ps = [] ∧ D'.hs = [] ∧ loadsOk h [] D'.ls = true
  | [], i, D, h1, h2, h3, h4, hr => by rw [wpd_nil]; exact ⟨hr, rfl, h3, h2, h4⟩
  | ⟨d, .q q, g, m⟩ :: l, i, ⟨F, S, ps, hs, ls⟩, h1, h2, h3, h4, hr => by
    simp only at h1 h2 h3 h4 hr
    subst h2; subst h3
    simp only [runQ] at hr
    have go : ∀ (_ : onSome (evQ q F h) fun v => (isLoad q = true → sameV v v = true) ∧ runQ l (putF d F v) h Q), wpd fns (⟨d, .q q, none, m⟩ :: l) i base ⟨F, S, [], [], ls⟩ fun D' => Q D'.F ∧ D'.S = S ∧ D'.ps = [] ∧ D'.hs = [] ∧ loadsOk h [] D'.ls = true := by
      rintro ⟨v, hv, hs, hr⟩
      rw [wpd_qE]
      subst h1
      refine ⟨v, hv, runQ_wpd rfl rfl rfl ?_ hr⟩
      show loadsOk S.h [] (bsel (isLoad q) (⟨q, F, v, i, m⟩ :: ls) ls) = true
      cases hq : isLoad q with
      | false => exact h4
      | true =>
        rw [bsel_true, loadsOk_cons, loadGo_nil]
        show bsel (sameO v (evQ q F S.h)) _ _ = true
        rw [hv, sameO_some, hs hq, bsel_true]
        exact h4
    cases g with
    | none => exact go (by rw [if_pos (show wants none F = true from rfl)] at hr; exact hr)
    | some g =>
      obtain ⟨s, b⟩ := g
      by_cases hw : wants (some (s, b)) F = true
      · rw [if_pos hw] at hr
        obtain ⟨n, D', e1, e2⟩ := go hr
        refine ⟨n, D', ?_, e2⟩
        have : evD ⟨d, .q q, some (s, b), m⟩ i base (ev fns n).call ⟨F, S, [], [], ls⟩ = evD ⟨d, .q q, none, m⟩ i base (ev fns n).call ⟨F, S, [], [], ls⟩ := by
          show bsel (wants (some (s, b)) F) _ _ = bsel true _ _
          rw [hw]; rfl
        show osel (evD ⟨d, .q q, some (s, b), m⟩ i base (ev fns n).call ⟨F, S, [], [], ls⟩) _ = _
        rw [this]; exact e1
      · rw [if_neg hw] at hr
        obtain ⟨n, D', e1, e2⟩ := runQ_wpd (i := i + 1) (D := ⟨putF d F .undef, S, [], [], ls⟩) h1 rfl rfl h4 hr
        refine ⟨n, D', ?_, e2⟩
        have : evD ⟨d, .q q, some (s, b), m⟩ i base (ev fns n).call ⟨F, S, [], [], ls⟩ = some ⟨putF d F .undef, S, [], [], ls⟩ := by
          show bsel (wants (some (s, b)) F) _ _ = _
          rw [show wants (some (s, b)) F = false by simpa using hw]; rfl
        show osel (evD ⟨d, .q q, some (s, b), m⟩ i base (ev fns n).call ⟨F, S, [], [], ls⟩) _ = _
        rw [this]; exact e1
  | ⟨d, .a a, g, m⟩ :: l, i, D, h1, h2, h3, h4, hr => by cases hr
  | ⟨d, .x a, g, m⟩ :: l, i, D, h1, h2, h3, h4, hr => by cases hr

theorem wpc_drq {ops : List AO} {A : Act'} {S : St} {Q : Out → Act' → St → Prop} (h : runQ ops A.F S.h fun F => Q .normal ⟨F, A.inr⟩ ⟨S.h, S.nx + ops.length⟩) : wpc fns (.drw ops) A S Q := by
  refine wpc_drw ?_
  obtain ⟨n, D', e1, e2, e3, e4, e5, e6⟩ := runQ_wpd (fns := fns) (base := S.nx) (i := 0) (D := ⟨A.F, ⟨S.h, S.nx + ops.length⟩, [], [], []⟩) rfl rfl rfl rfl h
  refine ⟨n, D', e1, ?_, ?_⟩
  · rw [e5]; exact e6
  · rw [e4, flush_nil, e3]; exact e2

theorem runQ_nil {F : Fr} {h : T AB} {Q : Fr → Prop} : runQ [] F h Q ↔ Q F := Iff.rfl
theorem runQ_q {d : Option Nat} {q : QOp} {m : Nat} {l : List AO} {F : Fr} {h : T AB} {Q : Fr → Prop} : runQ (⟨d, .q q, none, m⟩ :: l) F h Q ↔ onSome (evQ q F h) fun v => (isLoad q = true → sameV v v = true) ∧ runQ l (putF d F v) h Q := by
  show (if wants none F = true then _ else _) ↔ _
  rw [if_pos (show wants none F = true from rfl)]
theorem runQ_g {d : Option Nat} {q : QOp} {s : Nat} {b : Bool} {m : Nat} {l : List AO} {F : Fr} {h : T AB} {Q : Fr → Prop} : runQ (⟨d, .q q, some (s, b), m⟩ :: l) F h Q ↔ if isB (tmpV s F) b = true then runQ (⟨d, .q q, none, m⟩ :: l) F h Q else runQ l (putF d F .undef) h Q := by
  show (if wants (some (s, b)) F = true then _ else _) ↔ _
  rw [show wants (some (s, b)) F = isB (tmpV s F) b from rfl]
  split
  · rw [runQ_q]
  · rfl
theorem beq_tt : (true == true) = true := rfl
theorem beq_ff : (false == false) = true := rfl
theorem beq_tf : (true == false) = false := rfl
theorem beq_ft : (false == true) = false := rfl
theorem isB_undef (b : Bool) : isB .undef b = false := rfl
theorem isLoad_slc (k : SlK) (x : Opd) (a b c : Option Opd) : isLoad (.slc k x a b c) = false := rfl
theorem isLoad_extract (x : Opd) (i : Nat) : isLoad (.extract x i) = false := rfl
theorem isLoad_pick (c a b : Opd) : isLoad (.pick c a b) = false := rfl
theorem isLoad_fld (g : Bool) (o n : Nat) (x : Opd) : isLoad (.fld g o n x) = false := rfl
theorem isLoad_un (op : UnOp) (x : Opd) : isLoad (.un op x) = false := rfl
attribute [simp] runQ_nil runQ_q runQ_g isB_undef isLoad_slc isLoad_extract isLoad_pick isLoad_fld isLoad_un

/-! ## The rules without binders -/
def contQ (x : Option AV) (ld : Bool) (d : Option Nat) (l : List AO) (F : Fr) (h : T AB) (Q : Fr → Prop) : Prop := onSome x fun v => (ld = true → sameV v v = true) ∧ runQ l (putF d F v) h Q
theorem contQ_some {v : AV} {ld : Bool} {d : Option Nat} {l : List AO} {F : Fr} {h : T AB} {Q : Fr → Prop} : contQ (some v) ld d l F h Q ↔ (ld = true → sameV v v = true) ∧ runQ l (putF d F v) h Q := by unfold contQ; rw [onSome_some]
theorem runQ_c {d : Option Nat} {q : QOp} {m : Nat} {l : List AO} {F : Fr} {h : T AB} {Q : Fr → Prop} : runQ (⟨d, .q q, none, m⟩ :: l) F h Q ↔ contQ (evQ q F h) (isLoad q) d l F h Q := runQ_q
def contO (fns : T AFn) (x : Option AV) (d : Option Nat) (l : List AO) (F : Fr) (S : St) (Q : Fr → St → Prop) : Prop := onSome x fun v => wpo fns l (putF d F v) S Q
theorem contO_some {v : AV} {d : Option Nat} {l : List AO} {F : Fr} {S : St} {Q : Fr → St → Prop} : contO fns (some v) d l F S Q ↔ wpo fns l (putF d F v) S Q := by unfold contO; rw [onSome_some]
theorem wpo_c {d : Option Nat} {q : QOp} {m : Nat} {l : List AO} {F : Fr} {S : St} {Q : Fr → St → Prop} : wpo fns (⟨d, .q q, none, m⟩ :: l) F S Q ↔ contO fns (evQ q F S.h) d l F S Q := wpo_qE

/-! ## All but one block is as it was -/
def SameBut (b : Nat) (S S' : St) : Prop := S.nx ≤ S'.nx ∧ ∀ c, c < S.nx → c ≠ b → S'.h.get c = S.h.get c
theorem SameBut.refl (b : Nat) (S : St) : SameBut b S S := ⟨Nat.le_refl _, fun _ _ _ => rfl⟩
theorem SameBut.nx {b : Nat} {S S' : St} (h : SameBut b S S') (k : Nat) : SameBut b S ⟨S'.h, S'.nx + k⟩ := ⟨Nat.le_trans h.1 (Nat.le_add_right _ _), h.2⟩
theorem SameBut.put {b : Nat} {S S' : St} (h : SameBut b S S') (x : Option AB) : SameBut b S ⟨S'.h.set b x, S'.nx⟩ := ⟨h.1, fun c hc hne => by simp only; rw [T.get_set, if_neg hne]; exact h.2 c hc hne⟩
theorem SameBut.trans {b : Nat} {S S' S'' : St} (h : SameBut b S S') (h' : SameBut b S' S'') : SameBut b S S'' := ⟨Nat.le_trans h.1 h'.1, fun c hc hne => (h'.2 c (Nat.lt_of_lt_of_le hc h.1) hne).trans (h.2 c hc hne)⟩
theorem SameBut.same {b : Nat} {S0 S S' : St} (h0 : Same S0 S) (h : SameBut b S S') (hb : S0.nx ≤ b) : Same S0 S' := ⟨Nat.le_trans h0.1 h.1, fun c hc => (h.2 c (Nat.lt_of_lt_of_le hc h0.1) (by omega)).trans (h0.2 c hc)⟩
theorem Same.nx (S : St) (k : Nat) : Same S ⟨S.h, S.nx + k⟩ := ⟨Nat.le_add_right _ _, fun _ _ => rfl⟩

/-! ## A window of a list -/
/-- the rules of a step, joined -/
theorem stU : type_of% (And.intro @wpo_c (And.intro @wpo_gE (And.intro @wpo_nil (And.intro @thenQ_normal (And.intro @thenQ_ret (And.intro @thenQ_exit (And.intro @blockQ_normal (And.intro @blockQ_ret (And.intro @blockQ_exit (And.intro @roundQ_normal (And.intro @roundQ_ret (And.intro @roundQ_exit (And.intro @retQ_ret (And.intro @runQ_nil (And.intro @runQ_c (@runQ_g)))))))))))))))) := And.intro @wpo_c (And.intro @wpo_gE (And.intro @wpo_nil (And.intro @thenQ_normal (And.intro @thenQ_ret (And.intro @thenQ_exit (And.intro @blockQ_normal (And.intro @blockQ_ret (And.intro @blockQ_exit (And.intro @roundQ_normal (And.intro @roundQ_ret (And.intro @roundQ_exit (And.intro @retQ_ret (And.intro @runQ_nil (And.intro @runQ_c (@runQ_g)))))))))))))))
theorem stD : type_of% (And.intro @contO_some (And.intro @onSome_some (And.intro @evQ_mv (And.intro @evQ_conv (And.intro @evQ_bin (And.intro @evQ_un (And.intro @evQ_iaddr (And.intro @evQ_ld (And.intro @evQ_lenSl (And.intro @evQ_extract (And.intro @evQ_fld (And.intro @evQ_pick (And.intro @qPick_bool (And.intro @evQ_slc (And.intro @val_t (And.intro @val_c (And.intro @tmpV_putF (And.intro @putF_none (And.intro @conv_int (And.intro @bin_mul (And.intro @bin_add (And.intro @bin_sub (And.intro @bin_lss (And.intro @bin_leq (And.intro @bin_gtr (And.intro @bin_geq (And.intro @bin_eql (And.intro @bin_neq (And.intro @natOf_cast (And.intro @osel_some (And.intro @results_t (And.intro @results_nil (And.intro @oneOf_one (And.intro @oneOf_two (And.intro @valsOf_nil (And.intro @valsOf_cons (And.intro @argsIn_nil (And.intro @argsIn_cons (And.intro @contQ_some (And.intro @isB_bool (And.intro @isB_undef (And.intro @beq_tt (And.intro @beq_ff (And.intro @beq_tf (And.intro @beq_ft (And.intro @isLoad_mv (And.intro @isLoad_bin (And.intro @isLoad_iaddr (And.intro @isLoad_ld (And.intro @isLoad_lenSl (And.intro @isLoad_int (And.intro @isLoad_slc (And.intro @isLoad_extract (And.intro @isLoad_pick (And.intro @isLoad_fld (And.intro @isLoad_un (And.intro @same_int (And.intro @same_bool (And.intro @same_ptr (And.intro @same_sl (And.intro @same_nilsl (And.intro @Bool.false_eq_true (And.intro @false_implies (And.intro @true_implies (And.intro @true_and (And.intro @and_true (And.intro @Int.ofNat_eq_natCast (And.intro @Int.cast_ofNat_Int (And.intro @Int.natCast_zero (And.intro @Int.natCast_one (And.intro (@bsel_true (T AB)) (And.intro (@bsel_false (T AB)) (And.intro (@bsel_true AV) (And.intro (@bsel_false AV) (And.intro (@List.nil_append AV) (And.intro (@List.cons_append AV) (And.intro (@List.append_nil AV) (And.intro (@List.nil_append Nat) (And.intro (@List.cons_append Nat) (@List.append_nil Nat)))))))))))))))))))))))))))))))))))))))))))))))))))))))))))))))))))))))))))))))) := And.intro @contO_some (And.intro @onSome_some (And.intro @evQ_mv (And.intro @evQ_conv (And.intro @evQ_bin (And.intro @evQ_un (And.intro @evQ_iaddr (And.intro @evQ_ld (And.intro @evQ_lenSl (And.intro @evQ_extract (And.intro @evQ_fld (And.intro @evQ_pick (And.intro @qPick_bool (And.intro @evQ_slc (And.intro @val_t (And.intro @val_c (And.intro @tmpV_putF (And.intro @putF_none (And.intro @conv_int (And.intro @bin_mul (And.intro @bin_add (And.intro @bin_sub (And.intro @bin_lss (And.intro @bin_leq (And.intro @bin_gtr (And.intro @bin_geq (And.intro @bin_eql (And.intro @bin_neq (And.intro @natOf_cast (And.intro @osel_some (And.intro @results_t (And.intro @results_nil (And.intro @oneOf_one (And.intro @oneOf_two (And.intro @valsOf_nil (And.intro @valsOf_cons (And.intro @argsIn_nil (And.intro @argsIn_cons (And.intro @contQ_some (And.intro @isB_bool (And.intro @isB_undef (And.intro @beq_tt (And.intro @beq_ff (And.intro @beq_tf (And.intro @beq_ft (And.intro @isLoad_mv (And.intro @isLoad_bin (And.intro @isLoad_iaddr (And.intro @isLoad_ld (And.intro @isLoad_lenSl (And.intro @isLoad_int (And.intro @isLoad_slc (And.intro @isLoad_extract (And.intro @isLoad_pick (And.intro @isLoad_fld (And.intro @isLoad_un (And.intro @same_int (And.intro @same_bool (And.intro @same_ptr (And.intro @same_sl (And.intro @same_nilsl (And.intro @Bool.false_eq_true (And.intro @false_implies (And.intro @true_implies (And.intro @true_and (And.intro @and_true (And.intro @Int.ofNat_eq_natCast (And.intro @Int.cast_ofNat_Int (And.intro @Int.natCast_zero (And.intro @Int.natCast_one (And.intro (@bsel_true (T AB)) (And.intro (@bsel_false (T AB)) (And.intro (@bsel_true AV) (And.intro (@bsel_false AV) (And.intro (@List.nil_append AV) (And.intro (@List.cons_append AV) (And.intro (@List.append_nil AV) (And.intro (@List.nil_append Nat) (And.intro (@List.cons_append Nat) (@List.append_nil Nat)))))))))))))))))))))))))))))))))))))))))))))))))))))))))))))))))))))))))))))))
end Go.Ev.Gl

namespace Go.Ev.Gl
variable {fns : T AFn}

end Go.Ev.Gl

namespace Go.Ev.Gl
variable {fns : T AFn}

end Go.Ev.Gl

namespace Go.Ev.Gl
variable {fns : T AFn}

/-! ## The tables that the program lays -/
/-! ## Bits -/
theorem bin_and64 (e : EqT) {a b : Nat} (ha : a ≤ 18446744073709551615) (hb : b ≤ 18446744073709551615) : binV .and e (.int .u64 (a : Int)) (.int .u64 (b : Int)) = some (.int .u64 ((Nat.land a b : Nat) : Int)) := by
  show intsBin .and .u64 (Int.ofNat a) .u64 (Int.ofNat b) = _
  unfold intsBin
  rw [show isShift .and = false from rfl, bsel_false, keq_refl, bsel_true]
  show bsel (Nat.ble a 18446744073709551615) (bsel (Nat.ble b 18446744073709551615) _ _) _ = _
  rw [Nat.ble_eq_true_of_le ha, Nat.ble_eq_true_of_le hb]
  rfl
theorem bin_shr64 (e : EqT) (j : IntKind) {a n : Nat} (hn : n ≤ 64) : binV .shr e (.int .u64 (a : Int)) (.int j (n : Int)) = some (.int .u64 ((a / 2 ^ n : Nat) : Int)) := by
  show intsBin .shr .u64 (Int.ofNat a) j (Int.ofNat n) = _
  unfold intsBin
  rw [show isShift .shr = true from rfl, bsel_true]
  show shiftN .shr .u64 (Int.ofNat a) n = _
  unfold shiftN
  rw [show Nat.ble n IntKind.u64.bits = true from Nat.ble_eq_true_of_le hn, bsel_true]
  show some (AV.int .u64 (Int.fdiv (a : Int) ((2 ^ n : Nat) : Int))) = _
  rw [Int.fdiv_eq_ediv_of_nonneg _ (Int.natCast_nonneg _)]
  rfl
theorem bin_shl64 (e : EqT) (j : IntKind) {a n : Nat} (hn : n ≤ 64) : binV .shl e (.int .u64 (a : Int)) (.int j (n : Int)) = some (.int .u64 (IntKind.u64.wrap ((a * 2 ^ n : Nat) : Int))) := by
  show intsBin .shl .u64 (Int.ofNat a) j (Int.ofNat n) = _
  unfold intsBin
  rw [show isShift .shl = true from rfl, bsel_true]
  show shiftN .shl .u64 (Int.ofNat a) n = _
  unfold shiftN
  rw [show Nat.ble n IntKind.u64.bits = true from Nat.ble_eq_true_of_le hn, bsel_true]
  show some (AV.int .u64 (iMulV .u64 (Int.ofNat a) (Int.ofNat (2 ^ n)))) = _
  rw [iMulV_eq]
  rfl
theorem wrap_u64_mod (n : Nat) : IntKind.u64.wrap (n : Int) = ((n % 2 ^ 64 : Nat) : Int) := by
  simp [IntKind.wrap, IntKind.signed, IntKind.bits]
end Go.Ev.Gl
