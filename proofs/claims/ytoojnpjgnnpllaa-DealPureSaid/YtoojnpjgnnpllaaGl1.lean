/- Contracts of the program's functions on natural numbers in limbs (1). -/
import Derived.Test.YtoojnpjgnnpllaaGl0
import Derived.Test.YtoojnpjgnnpllaaIr0
import Derived.Test.YtoojnpjgnnpllaaIr1
import Derived.Test.YtoojnpjgnnpllaaIr2
import Derived.Test.YtoojnpjgnnpllaaIr3
set_option maxHeartbeats 4000000
set_option linter.unusedSimpArgs false
set_option linter.unusedVariables false
namespace Go.Ev.Gl
/-- the table holds these functions -/
structure Has (fns : T AFn) : Prop where
  f8 : fns.get 8 = some a8
  f16 : fns.get 16 = some a16
  f19 : fns.get 19 = some a19
  f23 : fns.get 23 = some a23
  f33 : fns.get 33 = some a33
  f35 : fns.get 35 = some a35
  f37 : fns.get 37 = some a37
  f38 : fns.get 38 = some a38
  f39 : fns.get 39 = some a39
  f40 : fns.get 40 = some a40
  f79 : fns.get 79 = some a79
  f80 : fns.get 80 = some a80
  f84 : fns.get 84 = some a84
  f86 : fns.get 86 = some a86
  f87 : fns.get 87 = some a87
  f88 : fns.get 88 = some a88
  f89 : fns.get 89 = some a89
  f90 : fns.get 90 = some a90
  f122 : fns.get 122 = some a122
  f123 : fns.get 123 = some a123
  f124 : fns.get 124 = some a124
  f127 : fns.get 127 = some a127
  f128 : fns.get 128 = some a128
  f129 : fns.get 129 = some a129
  f130 : fns.get 130 = some a130
  f131 : fns.get 131 = some a131
  f132 : fns.get 132 = some a132
  f133 : fns.get 133 = some a133
  f134 : fns.get 134 = some a134
  f160 : fns.get 160 = some a160
  f161 : fns.get 161 = some a161
  f162 : fns.get 162 = some a162
  f163 : fns.get 163 = some a163
  f164 : fns.get 164 = some a164
  f165 : fns.get 165 = some a165
  f172 : fns.get 172 = some a172
  f173 : fns.get 173 = some a173
  f174 : fns.get 174 = some a174
  f175 : fns.get 175 = some a175
  f176 : fns.get 176 = some a176
  f177 : fns.get 177 = some a177
  f180 : fns.get 180 = some a180
  f181 : fns.get 181 = some a181
  f182 : fns.get 182 = some a182
  f183 : fns.get 183 = some a183
  f184 : fns.get 184 = some a184
  f185 : fns.get 185 = some a185
  f186 : fns.get 186 = some a186
  f203 : fns.get 203 = some a203
  f204 : fns.get 204 = some a204
  f205 : fns.get 205 = some a205
  f206 : fns.get 206 = some a206
  f207 : fns.get 207 = some a207
  f209 : fns.get 209 = some a209
end Go.Ev.Gl
namespace Go.Ev.Gl
variable {fns : T AFn}

end Go.Ev.Gl

namespace Go.Ev.Gl
variable {fns : T AFn}

end Go.Ev.Gl

namespace Go.Ev.Gl
variable {fns : T AFn}

/-! ## A slice of one's own -/
theorem repeatL_one {α : Type} (z : α) : ∀ n, repeatL [z] n = List.replicate n z
  | 0 => rfl
  | n + 1 => by rw [repeatL_succ, repeatL_one z n, List.replicate_succ]; rfl
theorem evA_mk {t s bytes : Nat} {z : List AV} {l c : Opd} {F : Fr} {id n : Nat} (hl : natOf (l.val F) = some n) (hc : natOf (c.val F) = some n) (h1 : n ≤ room) (h2 : bytes * n ≤ room) :
    evA (.mkSlice t s bytes z l c) F id = some (.sl id 0 n n false, .cells (repeatL z n) false 0) := by
  show (osel (natOf (l.val F)) fun l => osel (natOf (c.val F)) fun c => bsel (Nat.ble l c) (bsel (Nat.ble c room) (bsel (Nat.ble (bytes * c) room) (some (AV.sl id 0 l c false, AB.cells (repeatL z c) false 0)) none) none) none) = _
  rw [hl, osel_some, hc, osel_some, Nat.ble_eq_true_of_le (Nat.le_refl n), Nat.ble_eq_true_of_le h1, Nat.ble_eq_true_of_le h2]
  rfl

/-! ## Sub -/
end Go.Ev.Gl

namespace Go.Ev.Gl
variable {fns : T AFn}

end Go.Ev.Gl

namespace Go.Ev.Gl
variable {fns : T AFn}

/-! ## append, one by one -/
theorem evX_app (t size bytes : Nat) (s x : Opd) (call : CallF) (F : Fr) (S : St) : evX (.app t size bytes s x) call F S = appendV bytes size (s.val F) (x.val F) S := rfl
theorem evA_one {t : Nat} {z : AV} {x : Opd} {F : Fr} {id : Nat} {k : IntKind} {n : Int} (hx : x.val F = .int k n) : evA (.bslice t 1 1 [z] [(0, x)]) F id = some (.sl id 0 1 1 false, .cells [.int k n] false 0) := by
  show (osel (fillP (repeatL [z] 1) [(0 * 1, 1, x.val F)]) fun cs => some (AV.sl id 0 1 1 false, AB.cells cs false 0)) = _
  rw [hx]
  rfl
attribute [simp] evX_app

end Go.Ev.Gl

namespace Go.Ev.Gl
variable {fns : T AFn}

/-! ## Mul -/
end Go.Ev.Gl

namespace Go.Ev.Gl
variable {fns : T AFn}

end Go.Ev.Gl

namespace Go.Ev.Gl
variable {fns : T AFn}

/-! ## append beyond the room: the block is given up -/
end Go.Ev.Gl

namespace Go.Ev.Gl
variable {fns : T AFn}

end Go.Ev.Gl

namespace Go.Ev.Gl
variable {fns : T AFn}

end Go.Ev.Gl

namespace Go.Ev.Gl
variable {fns : T AFn}

end Go.Ev.Gl

namespace Go.Ev.Gl
variable {fns : T AFn}

end Go.Ev.Gl

namespace Go.Ev.Gl
variable {fns : T AFn}

/-! ## Regions that draw their order, of plain operations alone -/
def runQ : List AO → Fr → T AB → (Fr → Prop) → Prop
  | [], F, _, Q => Q F
  | ⟨d, .q q, g, _⟩ :: l, F, h, Q => if wants g F = true then onSome (evQ q F h) fun v => (isLoad q = true → sameV v v = true) ∧ runQ l (putF d F v) h Q else runQ l (putF d F .undef) h Q
  | _ :: _, _, _, _ => False

theorem runQ_wpd {h : T AB} {base : Nat} {Q : Fr → Prop} : ∀ {ops : List AO} {i : Nat} {D : DS}, D.S.h = h → D.hs = [] → D.ps = [] → loadsOk h [] D.ls = true → runQ ops D.F h Q →
    wpd fns ops i base D fun D' => Q D'.F ∧ D'.S = D.S ∧ D'.ps = [] ∧ D'.hs = [] ∧ loadsOk h [] D'.ls = true
  | [], i, D, h1, h2, h3, h4, hr => by rw [wpd_nil]; exact ⟨hr, rfl, h3, h2, h4⟩
  | ⟨d, .q q, g, m⟩ :: l, i, ⟨F, S, ps, hs, ls⟩, h1, h2, h3, h4, hr => by
    simp only at h1 h2 h3 h4 hr
    subst h2; subst h3
    simp only [runQ] at hr
    have go : ∀ (_ : onSome (evQ q F h) fun v => (isLoad q = true → sameV v v = true) ∧ runQ l (putF d F v) h Q), wpd fns (⟨d, .q q, none, m⟩ :: l) i base ⟨F, S, [], [], ls⟩ fun D' => Q D'.F ∧ D'.S = S ∧ D'.ps = [] ∧ D'.hs = [] ∧ loadsOk h [] D'.ls = true := by
      rintro ⟨v, hv, hs, hr⟩
      rw [wpd_qE]
      subst h1
      refine ⟨v, hv, runQ_wpd rfl rfl rfl ?_ hr⟩
      show loadsOk S.h [] (bsel (isLoad q) (⟨q, F, v, i, m⟩ :: ls) ls) = true
      cases hq : isLoad q with
      | false => exact h4
      | true =>
        rw [bsel_true, loadsOk_cons, loadGo_nil]
        show bsel (sameO v (evQ q F S.h)) _ _ = true
        rw [hv, sameO_some, hs hq, bsel_true]
        exact h4
    cases g with
    | none => exact go (by rw [if_pos (show wants none F = true from rfl)] at hr; exact hr)
    | some g =>
      obtain ⟨s, b⟩ := g
      by_cases hw : wants (some (s, b)) F = true
      · rw [if_pos hw] at hr
        obtain ⟨n, D', e1, e2⟩ := go hr
        refine ⟨n, D', ?_, e2⟩
        have : evD ⟨d, .q q, some (s, b), m⟩ i base (ev fns n).call ⟨F, S, [], [], ls⟩ = evD ⟨d, .q q, none, m⟩ i base (ev fns n).call ⟨F, S, [], [], ls⟩ := by
          show bsel (wants (some (s, b)) F) _ _ = bsel true _ _
          rw [hw]; rfl
        show osel (evD ⟨d, .q q, some (s, b), m⟩ i base (ev fns n).call ⟨F, S, [], [], ls⟩) _ = _
        rw [this]; exact e1
      · rw [if_neg hw] at hr
        obtain ⟨n, D', e1, e2⟩ := runQ_wpd (i := i + 1) (D := ⟨putF d F .undef, S, [], [], ls⟩) h1 rfl rfl h4 hr
        refine ⟨n, D', ?_, e2⟩
        have : evD ⟨d, .q q, some (s, b), m⟩ i base (ev fns n).call ⟨F, S, [], [], ls⟩ = some ⟨putF d F .undef, S, [], [], ls⟩ := by
          show bsel (wants (some (s, b)) F) _ _ = _
          rw [show wants (some (s, b)) F = false by simpa using hw]; rfl
        show osel (evD ⟨d, .q q, some (s, b), m⟩ i base (ev fns n).call ⟨F, S, [], [], ls⟩) _ = _
        rw [this]; exact e1
  | ⟨d, .a a, g, m⟩ :: l, i, D, h1, h2, h3, h4, hr => by cases hr
  | ⟨d, .x a, g, m⟩ :: l, i, D, h1, h2, h3, h4, hr => by cases hr

theorem wpc_drq {ops : List AO} {A : Act'} {S : St} {Q : Out → Act' → St → Prop} (h : runQ ops A.F S.h fun F => Q .normal ⟨F, A.inr⟩ ⟨S.h, S.nx + ops.length⟩) : wpc fns (.drw ops) A S Q := by
  refine wpc_drw ?_
  obtain ⟨n, D', e1, e2, e3, e4, e5, e6⟩ := runQ_wpd (fns := fns) (base := S.nx) (i := 0) (D := ⟨A.F, ⟨S.h, S.nx + ops.length⟩, [], [], []⟩) rfl rfl rfl rfl h
  refine ⟨n, D', e1, ?_, ?_⟩
  · rw [e5]; exact e6
  · rw [e4, flush_nil, e3]; exact e2

theorem runQ_nil {F : Fr} {h : T AB} {Q : Fr → Prop} : runQ [] F h Q ↔ Q F := Iff.rfl
theorem runQ_q {d : Option Nat} {q : QOp} {m : Nat} {l : List AO} {F : Fr} {h : T AB} {Q : Fr → Prop} : runQ (⟨d, .q q, none, m⟩ :: l) F h Q ↔ onSome (evQ q F h) fun v => (isLoad q = true → sameV v v = true) ∧ runQ l (putF d F v) h Q := by
  show (if wants none F = true then _ else _) ↔ _
  rw [if_pos (show wants none F = true from rfl)]
theorem runQ_g {d : Option Nat} {q : QOp} {s : Nat} {b : Bool} {m : Nat} {l : List AO} {F : Fr} {h : T AB} {Q : Fr → Prop} : runQ (⟨d, .q q, some (s, b), m⟩ :: l) F h Q ↔ if isB (tmpV s F) b = true then runQ (⟨d, .q q, none, m⟩ :: l) F h Q else runQ l (putF d F .undef) h Q := by
  show (if wants (some (s, b)) F = true then _ else _) ↔ _
  rw [show wants (some (s, b)) F = isB (tmpV s F) b from rfl]
  split
  · rw [runQ_q]
  · rfl
theorem beq_tt : (true == true) = true := rfl
theorem beq_ff : (false == false) = true := rfl
theorem beq_tf : (true == false) = false := rfl
theorem beq_ft : (false == true) = false := rfl
theorem isB_undef (b : Bool) : isB .undef b = false := rfl
theorem isLoad_slc (k : SlK) (x : Opd) (a b c : Option Opd) : isLoad (.slc k x a b c) = false := rfl
theorem isLoad_extract (x : Opd) (i : Nat) : isLoad (.extract x i) = false := rfl
theorem isLoad_pick (c a b : Opd) : isLoad (.pick c a b) = false := rfl
theorem isLoad_fld (g : Bool) (o n : Nat) (x : Opd) : isLoad (.fld g o n x) = false := rfl
theorem isLoad_un (op : UnOp) (x : Opd) : isLoad (.un op x) = false := rfl
attribute [simp] runQ_nil runQ_q runQ_g isB_undef isLoad_slc isLoad_extract isLoad_pick isLoad_fld isLoad_un

/-! ## The rules without binders -/
def contQ (x : Option AV) (ld : Bool) (d : Option Nat) (l : List AO) (F : Fr) (h : T AB) (Q : Fr → Prop) : Prop := onSome x fun v => (ld = true → sameV v v = true) ∧ runQ l (putF d F v) h Q
theorem contQ_some {v : AV} {ld : Bool} {d : Option Nat} {l : List AO} {F : Fr} {h : T AB} {Q : Fr → Prop} : contQ (some v) ld d l F h Q ↔ (ld = true → sameV v v = true) ∧ runQ l (putF d F v) h Q := by unfold contQ; rw [onSome_some]
theorem runQ_c {d : Option Nat} {q : QOp} {m : Nat} {l : List AO} {F : Fr} {h : T AB} {Q : Fr → Prop} : runQ (⟨d, .q q, none, m⟩ :: l) F h Q ↔ contQ (evQ q F h) (isLoad q) d l F h Q := runQ_q
def contO (fns : T AFn) (x : Option AV) (d : Option Nat) (l : List AO) (F : Fr) (S : St) (Q : Fr → St → Prop) : Prop := onSome x fun v => wpo fns l (putF d F v) S Q
theorem contO_some {v : AV} {d : Option Nat} {l : List AO} {F : Fr} {S : St} {Q : Fr → St → Prop} : contO fns (some v) d l F S Q ↔ wpo fns l (putF d F v) S Q := by unfold contO; rw [onSome_some]
theorem wpo_c {d : Option Nat} {q : QOp} {m : Nat} {l : List AO} {F : Fr} {S : St} {Q : Fr → St → Prop} : wpo fns (⟨d, .q q, none, m⟩ :: l) F S Q ↔ contO fns (evQ q F S.h) d l F S Q := wpo_qE

/-! ## All but one block is as it was -/
def SameBut (b : Nat) (S S' : St) : Prop := S.nx ≤ S'.nx ∧ ∀ c, c < S.nx → c ≠ b → S'.h.get c = S.h.get c
theorem SameBut.refl (b : Nat) (S : St) : SameBut b S S := ⟨Nat.le_refl _, fun _ _ _ => rfl⟩
theorem SameBut.put {b : Nat} {S S' : St} (h : SameBut b S S') (x : Option AB) : SameBut b S ⟨S'.h.set b x, S'.nx⟩ := ⟨h.1, fun c hc hne => by simp only; rw [T.get_set, if_neg hne]; exact h.2 c hc hne⟩
theorem SameBut.trans {b : Nat} {S S' S'' : St} (h : SameBut b S S') (h' : SameBut b S' S'') : SameBut b S S'' := ⟨Nat.le_trans h.1 h'.1, fun c hc hne => (h'.2 c (Nat.lt_of_lt_of_le hc h.1) hne).trans (h.2 c hc hne)⟩
theorem SameBut.same {b : Nat} {S0 S S' : St} (h0 : Same S0 S) (h : SameBut b S S') (hb : S0.nx ≤ b) : Same S0 S' := ⟨Nat.le_trans h0.1 h.1, fun c hc => (h.2 c (Nat.lt_of_lt_of_le hc h0.1) (by omega)).trans (h0.2 c hc)⟩
theorem Same.nx (S : St) (k : Nat) : Same S ⟨S.h, S.nx + k⟩ := ⟨Nat.le_add_right _ _, fun _ _ => rfl⟩

/-! ## A window of a list -/
/-- the rules of a step, joined -/
theorem stU : type_of% (And.intro @wpo_c (And.intro @wpo_gE (And.intro @wpo_nil (And.intro @thenQ_normal (And.intro @thenQ_ret (And.intro @thenQ_exit (And.intro @blockQ_normal (And.intro @blockQ_ret (And.intro @blockQ_exit (And.intro @roundQ_normal (And.intro @roundQ_ret (And.intro @roundQ_exit (And.intro @retQ_ret (And.intro @runQ_nil (And.intro @runQ_c (@runQ_g)))))))))))))))) := And.intro @wpo_c (And.intro @wpo_gE (And.intro @wpo_nil (And.intro @thenQ_normal (And.intro @thenQ_ret (And.intro @thenQ_exit (And.intro @blockQ_normal (And.intro @blockQ_ret (And.intro @blockQ_exit (And.intro @roundQ_normal (And.intro @roundQ_ret (And.intro @roundQ_exit (And.intro @retQ_ret (And.intro @runQ_nil (And.intro @runQ_c (@runQ_g)))))))))))))))
theorem stD : type_of% (And.intro @contO_some (And.intro @onSome_some (And.intro @evQ_mv (And.intro @evQ_conv (And.intro @evQ_bin (And.intro @evQ_un (And.intro @evQ_iaddr (And.intro @evQ_ld (And.intro @evQ_lenSl (And.intro @evQ_extract (And.intro @evQ_fld (And.intro @evQ_pick (And.intro @qPick_bool (And.intro @evQ_slc (And.intro @val_t (And.intro @val_c (And.intro @tmpV_putF (And.intro @putF_none (And.intro @conv_int (And.intro @bin_mul (And.intro @bin_add (And.intro @bin_sub (And.intro @bin_lss (And.intro @bin_leq (And.intro @bin_gtr (And.intro @bin_geq (And.intro @bin_eql (And.intro @bin_neq (And.intro @natOf_cast (And.intro @osel_some (And.intro @results_t (And.intro @results_nil (And.intro @oneOf_one (And.intro @oneOf_two (And.intro @valsOf_nil (And.intro @valsOf_cons (And.intro @argsIn_nil (And.intro @argsIn_cons (And.intro @contQ_some (And.intro @isB_bool (And.intro @isB_undef (And.intro @beq_tt (And.intro @beq_ff (And.intro @beq_tf (And.intro @beq_ft (And.intro @isLoad_mv (And.intro @isLoad_bin (And.intro @isLoad_iaddr (And.intro @isLoad_ld (And.intro @isLoad_lenSl (And.intro @isLoad_int (And.intro @isLoad_slc (And.intro @isLoad_extract (And.intro @isLoad_pick (And.intro @isLoad_fld (And.intro @isLoad_un (And.intro @same_int (And.intro @same_bool (And.intro @same_ptr (And.intro @same_sl (And.intro @same_nilsl (And.intro @Bool.false_eq_true (And.intro @false_implies (And.intro @true_implies (And.intro @true_and (And.intro @and_true (And.intro @Int.ofNat_eq_natCast (And.intro @Int.cast_ofNat_Int (And.intro @Int.natCast_zero (And.intro @Int.natCast_one (And.intro (@bsel_true (T AB)) (And.intro (@bsel_false (T AB)) (And.intro (@bsel_true AV) (And.intro (@bsel_false AV) (And.intro (@List.nil_append AV) (And.intro (@List.cons_append AV) (And.intro (@List.append_nil AV) (And.intro (@List.nil_append Nat) (And.intro (@List.cons_append Nat) (@List.append_nil Nat)))))))))))))))))))))))))))))))))))))))))))))))))))))))))))))))))))))))))))))))) := And.intro @contO_some (And.intro @onSome_some (And.intro @evQ_mv (And.intro @evQ_conv (And.intro @evQ_bin (And.intro @evQ_un (And.intro @evQ_iaddr (And.intro @evQ_ld (And.intro @evQ_lenSl (And.intro @evQ_extract (And.intro @evQ_fld (And.intro @evQ_pick (And.intro @qPick_bool (And.intro @evQ_slc (And.intro @val_t (And.intro @val_c (And.intro @tmpV_putF (And.intro @putF_none (And.intro @conv_int (And.intro @bin_mul (And.intro @bin_add (And.intro @bin_sub (And.intro @bin_lss (And.intro @bin_leq (And.intro @bin_gtr (And.intro @bin_geq (And.intro @bin_eql (And.intro @bin_neq (And.intro @natOf_cast (And.intro @osel_some (And.intro @results_t (And.intro @results_nil (And.intro @oneOf_one (And.intro @oneOf_two (And.intro @valsOf_nil (And.intro @valsOf_cons (And.intro @argsIn_nil (And.intro @argsIn_cons (And.intro @contQ_some (And.intro @isB_bool (And.intro @isB_undef (And.intro @beq_tt (And.intro @beq_ff (And.intro @beq_tf (And.intro @beq_ft (And.intro @isLoad_mv (And.intro @isLoad_bin (And.intro @isLoad_iaddr (And.intro @isLoad_ld (And.intro @isLoad_lenSl (And.intro @isLoad_int (And.intro @isLoad_slc (And.intro @isLoad_extract (And.intro @isLoad_pick (And.intro @isLoad_fld (And.intro @isLoad_un (And.intro @same_int (And.intro @same_bool (And.intro @same_ptr (And.intro @same_sl (And.intro @same_nilsl (And.intro @Bool.false_eq_true (And.intro @false_implies (And.intro @true_implies (And.intro @true_and (And.intro @and_true (And.intro @Int.ofNat_eq_natCast (And.intro @Int.cast_ofNat_Int (And.intro @Int.natCast_zero (And.intro @Int.natCast_one (And.intro (@bsel_true (T AB)) (And.intro (@bsel_false (T AB)) (And.intro (@bsel_true AV) (And.intro (@bsel_false AV) (And.intro (@List.nil_append AV) (And.intro (@List.cons_append AV) (And.intro (@List.append_nil AV) (And.intro (@List.nil_append Nat) (And.intro (@List.cons_append Nat) (@List.append_nil Nat)))))))))))))))))))))))))))))))))))))))))))))))))))))))))))))))))))))))))))))))
end Go.Ev.Gl

namespace Go.Ev.Gl
variable {fns : T AFn}

end Go.Ev.Gl

namespace Go.Ev.Gl
variable {fns : T AFn}

theorem ex0 (a : AV) (l : List AV) : extractV (.tup (a :: l)) 0 = some a := rfl
theorem ex1 (a b : AV) (l : List AV) : extractV (.tup (a :: b :: l)) 1 = some b := rfl
end Go.Ev.Gl

namespace Go.Ev.Gl
variable {fns : T AFn}

/-! ## The tables that the program lays -/
/-! ## Bits -/
end Go.Ev.Gl
