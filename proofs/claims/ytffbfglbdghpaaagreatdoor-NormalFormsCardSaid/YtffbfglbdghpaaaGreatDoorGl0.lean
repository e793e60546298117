/- Natural numbers in limbs, rational numbers in lowest terms: plain facts; rules as equations. -/
import Derived.Test.YtffbfglbdghpaaaGreatDoorEv8
set_option maxHeartbeats 4000000
set_option linter.unusedSimpArgs false
set_option linter.unusedVariables false
/- Natural numbers in limbs of base 10^9, lowest limb first: plain facts, no program in sight. -/
namespace Go.Ev.Gl

def B : Nat := 1000000000
theorem B_pos : 0 < B := by decide

def val : List Nat → Nat
  | [] => 0
  | x :: l => x + B * val l

def Small (l : List Nat) : Prop := ∀ x ∈ l, x < B
/-- limbs in range, the last one not zero -/
def Norm (l : List Nat) : Prop := Small l ∧ l.getLast? ≠ some 0

theorem val_nil : val [] = 0 := rfl
theorem val_cons (x : Nat) (l : List Nat) : val (x :: l) = x + B * val l := rfl
theorem val_append : ∀ (l m : List Nat), val (l ++ m) = val l + B ^ l.length * val m
  | [], m => by simp [val_nil]
  | x :: l, m => by
    simp only [List.cons_append, val_cons, val_append l m, List.length_cons, Nat.pow_succ, Nat.mul_add]
    rw [Nat.mul_comm (B ^ l.length) B, Nat.mul_assoc]
    omega
theorem val_snoc (l : List Nat) (x : Nat) : val (l ++ [x]) = val l + B ^ l.length * x := by rw [val_append]; simp [val_cons, val_nil]
theorem Small.nil : Small [] := fun x h => by cases h
theorem Small.cons {x : Nat} {l : List Nat} : Small (x :: l) ↔ x < B ∧ Small l := by simp [Small]
theorem Small.append {l m : List Nat} : Small (l ++ m) ↔ Small l ∧ Small m := by
  unfold Small
  constructor
  · intro h; exact ⟨fun x hx => h x (by simp [hx]), fun x hx => h x (by simp [hx])⟩
  · rintro ⟨h1, h2⟩ x hx
    rcases List.mem_append.1 hx with hx | hx
    · exact h1 x hx
    · exact h2 x hx
theorem Small.take {l : List Nat} (h : Small l) (n : Nat) : Small (l.take n) := fun x hx => h x (List.mem_of_mem_take hx)
theorem Small.get {l : List Nat} (h : Small l) {i x : Nat} (hx : l[i]? = some x) : x < B := h x (List.mem_of_getElem? hx)

theorem val_lt : ∀ {l : List Nat}, Small l → val l < B ^ l.length
  | [], _ => by simp [val_nil]
  | x :: l, h => by
    rw [Small.cons] at h
    have ih := val_lt h.2
    rw [val_cons, List.length_cons, Nat.pow_succ, Nat.mul_comm]
    have : val l * B + B ≤ B ^ l.length * B := by
      have := Nat.mul_le_mul_right B (Nat.succ_le_of_lt ih)
      rw [Nat.succ_mul] at this
      exact this
    have := h.1
    omega

/-- two lists of one length are ordered as their last limbs where these differ -/
theorem val_le_of_len {l m : List Nat} (hl : Small l) (hm : Norm m) (h : l.length < m.length) : val l < val m := by
  have h1 := val_lt hl
  have hne : m ≠ [] := by intro e; subst e; simp at h
  obtain ⟨m', x, rfl⟩ : ∃ m' x, m = m' ++ [x] := ⟨m.dropLast, m.getLast hne, (List.dropLast_concat_getLast hne).symm⟩
  have hx : x ≠ 0 := by
    intro e
    apply hm.2
    simp [e]
  rw [val_snoc]
  simp at h
  have h2 : B ^ l.length ≤ B ^ m'.length := Nat.pow_le_pow_right B_pos (by omega)
  have h3 : B ^ m'.length * 1 ≤ B ^ m'.length * x := Nat.mul_le_mul_left _ (by omega)
  omega

theorem val_eq_of_len : ∀ {l m : List Nat}, Small l → Small m → l.length = m.length → val l = val m → l = m
  | [], [], _, _, _, _ => rfl
  | [], _ :: _, _, _, h, _ => by simp at h
  | _ :: _, [], _, _, h, _ => by simp at h
  | x :: l, y :: m, hl, hm, h, hv => by
    rw [Small.cons] at hl hm
    rw [val_cons, val_cons] at hv
    have e1 : x = y := by
      have h1 : (x + B * val l) % B = x := by rw [Nat.add_mul_mod_self_left]; exact Nat.mod_eq_of_lt hl.1
      have h2 : (y + B * val m) % B = y := by rw [Nat.add_mul_mod_self_left]; exact Nat.mod_eq_of_lt hm.1
      rw [hv] at h1
      omega
    subst e1
    have e2 : val l = val m := by
      have : B * val l = B * val m := by omega
      exact Nat.eq_of_mul_eq_mul_left B_pos this
    rw [val_eq_of_len hl.2 hm.2 (by simpa using h) e2]

theorem norm_inj {l m : List Nat} (hl : Norm l) (hm : Norm m) (h : val l = val m) : l = m := by
  rcases Nat.lt_trichotomy l.length m.length with h1 | h1 | h1
  · have := val_le_of_len hl.1 hm h1; omega
  · exact val_eq_of_len hl.1 hm.1 h1 h
  · have := val_le_of_len hm.1 hl h1; omega

theorem norm_nil : Norm [] := ⟨Small.nil, by simp⟩
theorem norm_zero {l : List Nat} (h : Norm l) : val l = 0 ↔ l = [] := by
  constructor
  · intro h1; exact norm_inj h norm_nil h1
  · intro h1; subst h1; rfl
theorem norm_one : Norm [1] := ⟨fun x hx => by simp at hx; subst hx; decide, by simp⟩
theorem val_one : val [1] = 1 := by simp [val_cons, val_nil]
theorem norm_val_one {l : List Nat} (h : Norm l) : val l = 1 ↔ l = [1] := by
  constructor
  · intro h1; exact norm_inj h norm_one (by rw [h1, val_one])
  · intro h1; subst h1; exact val_one

theorem val_zeros : ∀ {l : List Nat}, (∀ x ∈ l, x = 0) → val l = 0
  | [], _ => rfl
  | x :: l, h => by rw [val_cons, h x (by simp), val_zeros (fun y hy => h y (by simp [hy]))]; simp

/-- numbers that no machine is too small for -/
def Fits (n : Nat) : Prop := n < B ^ 100000
theorem lt_pow_up {n i j : Nat} (h : n < B ^ i) (hi : i ≤ j) : n < B ^ j := Nat.lt_of_lt_of_le h (Nat.pow_le_pow_right B_pos hi)
theorem Fits.of {n i : Nat} (h : n < B ^ i) (hi : i ≤ 100000) : Fits n := by unfold Fits; exact lt_pow_up (j := 100000) h hi
theorem Fits.mono {n m : Nat} (h : Fits m) (hn : n ≤ m) : Fits n := Nat.lt_of_le_of_lt hn h
theorem norm_low {l : List Nat} (h : Norm l) (hne : l ≠ []) : B ^ (l.length - 1) ≤ val l := by
  obtain ⟨m', x, rfl⟩ : ∃ m' x, l = m' ++ [x] := ⟨l.dropLast, l.getLast hne, (List.dropLast_concat_getLast hne).symm⟩
  have hx : x ≠ 0 := by
    intro e
    apply h.2
    simp [e]
  rw [val_snoc]
  have h3 : B ^ m'.length * 1 ≤ B ^ m'.length * x := Nat.mul_le_mul_left _ (by omega)
  simp
  omega
theorem len_le {l : List Nat} {K : Nat} (h : Norm l) (hv : val l < B ^ K) : l.length ≤ K := by
  by_cases hne : l = []
  · subst hne; simp
  · have h1 := norm_low h hne
    rcases Nat.lt_or_ge K l.length with h2 | h2
    · have : B ^ K ≤ B ^ (l.length - 1) := Nat.pow_le_pow_right B_pos (by omega)
      omega
    · exact h2
theorem Fits.len {l : List Nat} (h : Norm l) (hv : Fits (val l)) : l.length ≤ 100000 := len_le h hv
end Go.Ev.Gl

namespace Go.Ev.Gl
variable {fns : T AFn}

/-! ## The rules, ready for 'simp' -/
theorem isB_bool (a b : Bool) : isB (.bool a) b = (a == b) := by cases a <;> cases b <;> rfl
theorem wpo_gE {d : Option Nat} {op : AOp} {s : Nat} {b : Bool} {m : Nat} {l : List AO} {F : Fr} {S : St} {Q : Fr → St → Prop} : wpo fns (⟨d, op, some (s, b), m⟩ :: l) F S Q ↔ if isB (tmpV s F) b = true then wpo fns (⟨d, op, none, m⟩ :: l) F S Q else wpo fns l (putF d F .undef) S Q := by
  have e : ∀ call, evOp ⟨d, op, some (s, b), m⟩ call F S = bsel (isB (tmpV s F) b) (evOp ⟨d, op, none, m⟩ call F S) (some (putF d F .undef, S)) := fun call => by
    cases op <;> rfl
  constructor
  · rintro ⟨n, F', S', h1, h2⟩
    rw [evOps_cons, e] at h1
    cases hb : isB (tmpV s F) b with
    | true =>
      rw [hb, bsel_true] at h1
      rw [if_pos rfl]
      exact ⟨n, F', S', by rw [evOps_cons]; exact h1, h2⟩
    | false =>
      rw [hb, bsel_false, osel_some] at h1
      rw [if_neg (by simp)]
      exact ⟨n, F', S', h1, h2⟩
  · intro h
    cases hb : isB (tmpV s F) b with
    | true =>
      rw [hb, if_pos rfl] at h
      obtain ⟨n, F', S', h1, h2⟩ := h
      refine ⟨n, F', S', ?_, h2⟩
      rw [evOps_cons, e, hb, bsel_true, ← evOps_cons]
      exact h1
    | false =>
      rw [hb, if_neg (by simp)] at h
      obtain ⟨n, F', S', h1, h2⟩ := h
      refine ⟨n, F', S', ?_, h2⟩
      rw [evOps_cons, e, hb, bsel_false, osel_some]
      exact h1

theorem wpo_onE {d : Option Nat} {op : AOp} {s : Nat} {b : Bool} {m : Nat} {l : List AO} {F : Fr} {S : St} {Q : Fr → St → Prop} (hg : tmpV s F = .bool b) : wpo fns (⟨d, op, some (s, b), m⟩ :: l) F S Q ↔ wpo fns (⟨d, op, none, m⟩ :: l) F S Q := by
  rw [wpo_gE, hg, isB_bool, if_pos (by simp)]
theorem wpo_offE {d : Option Nat} {op : AOp} {s : Nat} {b : Bool} {m : Nat} {l : List AO} {F : Fr} {S : St} {Q : Fr → St → Prop} (hg : tmpV s F = .bool (!b)) : wpo fns (⟨d, op, some (s, b), m⟩ :: l) F S Q ↔ wpo fns l (putF d F .undef) S Q := by
  rw [wpo_gE, hg, isB_bool, if_neg (by cases b <;> simp)]
theorem wpc_yes {c : Opd} {x y : AC} {A : Act'} {S : St} {Q : Out → Act' → St → Prop} (hc : c.val A.F = .bool true) (h : wpc fns x A S Q) : wpc fns (.cond c x y) A S Q := wpc_if hc (fun _ => h) (fun h => by cases h)
theorem wpc_non {c : Opd} {x y : AC} {A : Act'} {S : St} {Q : Out → Act' → St → Prop} (hc : c.val A.F = .bool false) (h : wpc fns y A S Q) : wpc fns (.cond c x y) A S Q := wpc_if hc (fun h => by cases h) (fun _ => h)
theorem wsr {ops : List AO} {y : AC} {A : Act'} {S : St} {Q : Out → Act' → St → Prop} (h : wpo fns ops A.F S fun F' S' => thenQ fns y Q .normal ⟨F', A.inr⟩ S') : wpc fns (.seq (.reg ops) y) A S Q := wpc_seq (wpc_reg h)
theorem wss {ops : List AO} {y z : AC} {A : Act'} {S : St} {Q : Out → Act' → St → Prop} (h : wpo fns ops A.F S fun F' S' => thenQ fns y (thenQ fns z Q) .normal ⟨F', A.inr⟩ S') : wpc fns (.seq (.seq (.reg ops) y) z) A S Q := wpc_seq (wpc_seq (wpc_reg h))
theorem thenQ_normal (y : AC) (Q : Out → Act' → St → Prop) (A : Act') (S : St) : thenQ fns y Q .normal A S = wpc fns y A S Q := rfl
theorem thenQ_ret (y : AC) (Q : Out → Act' → St → Prop) (A : Act') (S : St) : thenQ fns y Q .ret A S = Q .ret A S := rfl
theorem thenQ_exit (y : AC) (Q : Out → Act' → St → Prop) (A : Act') (S : St) (i : Nat) : thenQ fns y Q (.exit i) A S = Q (.exit i) A S := rfl
theorem blockQ_normal (id : Nat) (Q : Out → Act' → St → Prop) (A : Act') (S : St) : blockQ id Q .normal A S = Q .normal A S := rfl
theorem blockQ_ret (id : Nat) (Q : Out → Act' → St → Prop) (A : Act') (S : St) : blockQ id Q .ret A S = Q .ret A S := rfl
theorem blockQ_exit (id i : Nat) (Q : Out → Act' → St → Prop) (A : Act') (S : St) : blockQ id Q (.exit i) A S = if i = id then Q .normal A S else Q (.exit i) A S := rfl
theorem roundQ_normal (I : Nat → Act' → St → Prop) (k : Nat) (Q : Out → Act' → St → Prop) (A : Act') (S : St) : roundQ I k Q .normal A S = ∃ k', k' < k ∧ I k' A S := rfl
theorem roundQ_ret (I : Nat → Act' → St → Prop) (k : Nat) (Q : Out → Act' → St → Prop) (A : Act') (S : St) : roundQ I k Q .ret A S = Q .ret A S := rfl
theorem roundQ_exit (I : Nat → Act' → St → Prop) (k i : Nat) (Q : Out → Act' → St → Prop) (A : Act') (S : St) : roundQ I k Q (.exit i) A S = Q (.exit i) A S := rfl
theorem retQ_ret (res : List RV) (Q : AV → St → Prop) (A : Act') (S : St) : retQ res Q .ret A S = onSome (results res A.F S.h) fun vs => Q (oneOf vs) S := rfl
theorem results_nil (F : Fr) (h : T AB) : results [] F h = some [] := rfl
theorem results_t (i : Nat) (rs : List RV) (F : Fr) (h : T AB) : results (.t i :: rs) F h = osel (results rs F h) fun vs => some (tmpV i F :: vs) := rfl
theorem oneOf_one (v : AV) : oneOf [v] = v := rfl
theorem oneOf_two (v u : AV) (vs : List AV) : oneOf (v :: u :: vs) = .tup (v :: u :: vs) := rfl
theorem argsIn_nil (i : Nat) (F : Fr) : argsIn [] i F = F := rfl
theorem argsIn_cons (v : AV) (vs : List AV) (i : Nat) (F : Fr) : argsIn (v :: vs) i F = argsIn vs (i + 1) (putF (some i) F v) := rfl
theorem qPick_bool (t : Bool) (a b : Opd) (F : Fr) : qPickB (.bool t) a b F = some (bsel t (a.val F) (b.val F)) := rfl
theorem isLoad_mv (x : Opd) : isLoad (.mv x) = false := rfl
theorem isLoad_bin (op : BinOp) (e : EqT) (x y : Opd) : isLoad (.bin op e x y) = false := rfl
theorem isLoad_iaddr (k : IxK) (x y : Opd) : isLoad (.iaddr k x y) = false := rfl
theorem isLoad_ld (g : Bool) (n : Nat) (x : Opd) : isLoad (.ld g n x) = true := rfl
theorem isLoad_lenSl (x : Opd) : isLoad (.lenSl x) = false := rfl
theorem isLoad_int (k : IntKind) (x : Opd) : isLoad (.conv (.int k) x) = false := rfl
theorem loadsOk_nil (h0 : T AB) (hs : List (Nat × Nat × T AB)) : loadsOk h0 hs [] = true := rfl
theorem loadsOk_cons (h0 : T AB) (hs : List (Nat × Nat × T AB)) (l : Loaded) (ls : List Loaded) : loadsOk h0 hs (l :: ls) = bsel (loadGo l hs h0) (loadsOk h0 hs ls) false := rfl
theorem loadGo_nil (l : Loaded) (h : T AB) : loadGo l [] h = sameO l.v (evQ l.q l.F h) := rfl
theorem sameO_some (v w : AV) : sameO v (some w) = sameV w v := rfl
theorem flush_nil (m : Nat) (h : T AB) : flush m [] h = ([], h) := rfl

attribute [simp] onSome_some wpo_qE wpo_aE wpo_onE wpo_offE wpo_nil wpd_nil wpd_qE wpd_aE isB_bool thenQ_normal thenQ_ret thenQ_exit blockQ_normal blockQ_ret blockQ_exit roundQ_normal roundQ_ret roundQ_exit retQ_ret results_nil results_t
  oneOf_one oneOf_two argsIn_nil argsIn_cons qPick_bool osel_some osel_none bsel_true bsel_false evQ_mv evQ_bin evQ_un evQ_lenSl evQ_iaddr evQ_ld evQ_conv evQ_extract evQ_pick evQ_fld val_t val_c tmpV_putF putF_none
  bin_add bin_sub bin_mul bin_lss bin_leq bin_gtr bin_geq bin_eql bin_neq conv_int
  isLoad_mv isLoad_bin isLoad_iaddr isLoad_ld isLoad_lenSl isLoad_int loadsOk_nil loadsOk_cons loadGo_nil sameO_some same_int same_bool same_ptr same_sl same_nilsl flush_nil

/-! ## Wraps -/
theorem wrap_i64 {n : Int} (h1 : -9223372036854775808 ≤ n) (h2 : n ≤ 9223372036854775807) : IntKind.i64.wrap n = n := wrap_id (by simp [IntKind.min, IntKind.signed, IntKind.bits]; omega) (by simp [IntKind.max, IntKind.signed, IntKind.bits]; omega)
theorem wrap_u64 {n : Int} (h1 : 0 ≤ n) (h2 : n ≤ 18446744073709551615) : IntKind.u64.wrap n = n := wrap_id (by simp [IntKind.min, IntKind.signed]; omega) (by simp [IntKind.max, IntKind.signed, IntKind.bits]; omega)
theorem wrap_u32 {n : Int} (h1 : 0 ≤ n) (h2 : n ≤ 4294967295) : IntKind.u32.wrap n = n := wrap_id (by simp [IntKind.min, IntKind.signed]; omega) (by simp [IntKind.max, IntKind.signed, IntKind.bits]; omega)

/-! ## Limbs -/
def LimbIs (S : St) (v : AV) (l : List Nat) : Prop := IsSl .u32 S v (l.map Int.ofNat)
def NatIs (S : St) (v : AV) (n : Nat) : Prop := ∃ l, LimbIs S v l ∧ Norm l ∧ val l = n

theorem LimbIs.len {S : St} {v : AV} {l : List Nat} (h : LimbIs S v l) : lenSlV v = some (.int .i64 (l.length : Int)) := by
  have := IsSl.len h
  rw [List.length_map] at this
  exact this
theorem LimbIs.iaddr {S : St} {v : AV} {l : List Nat} (h : LimbIs S v l) {i : Nat} (hi : i < l.length) : iaddrV (.slice 1) v i = some (elemP v i) := IsSl.iaddr h (by simpa using hi)
theorem LimbIs.ld {S : St} {v : AV} {l : List Nat} (h : LimbIs S v l) {i : Nat} (hi : i < l.length) : qLdV (elemP v i) false 1 S.h = some (.int .u32 ((l.getD i 0 : Nat) : Int)) := by
  have := IsSl.ld h (i := i) (by simpa using hi)
  rw [this]
  simp [List.getD_eq_getElem?_getD, hi]
theorem LimbIs.same {S S' : St} {v : AV} {l : List Nat} (h : LimbIs S v l) (hs : Same S S') : LimbIs S' v l := IsSl.same h hs
theorem NatIs.same {S S' : St} {v : AV} {n : Nat} (h : NatIs S v n) (hs : Same S S') : NatIs S' v n := by
  obtain ⟨l, h1, h2, h3⟩ := h
  exact ⟨l, h1.same hs, h2, h3⟩
/-- a slice's head -/
def slHead (v : AV) (i : Nat) : AV :=
  match v with
  | .sl b off _ cap o => .sl b off i cap o
  | v => v
theorem LimbIs.slc {S : St} {v : AV} {l : List Nat} (h : LimbIs S v l) {i : Nat} (hi : i < l.length) {F : Fr} {x : Opd} (hx : natOf (x.val F) = some i) : slcV (.slice 1) v none (some x) none F = some (slHead v i) := by
  rcases h with ⟨h0, _⟩ | ⟨b, off, cap, o, cs, rfl, hc, hb, hcs, hel⟩
  · simp at h0; subst h0; simp at hi
  · rw [List.length_map] at hc
    have e1 : Nat.ble cap cap = true := Nat.ble_eq_true_of_le (Nat.le_refl _)
    have e2 : Nat.ble i cap = true := Nat.ble_eq_true_of_le (by omega)
    have e3 : Nat.ble 0 i = true := Nat.ble_eq_true_of_le (Nat.zero_le _)
    have e4 : Nat.beq cap 0 = false := by rw [Bool.eq_false_iff]; intro h; rw [Nat.beq_eq] at h; omega
    simp only [slcV, slSl, bounds, optNat, osel_some, hx, e1, e2, e3, bsel_true, e4, bsel_false, Nat.sub_zero, Nat.zero_mul, Nat.add_zero, Option.isNone_none]
    cases o <;> rfl
theorem LimbIs.head {S : St} {v : AV} {l : List Nat} (h : LimbIs S v l) {i : Nat} (hi : i < l.length) : LimbIs S (slHead v i) (l.take i) := by
  rcases h with ⟨h0, _⟩ | ⟨b, off, cap, o, cs, rfl, hc, hb, hcs, hel⟩
  · simp at h0; subst h0; simp at hi
  · rw [List.length_map] at hc
    refine .inr ⟨b, off, cap, o, cs, ?_, ?_, hb, hcs, ?_⟩
    · simp only [slHead]
      rw [List.length_map, List.length_take, Nat.min_eq_left (by omega)]
    · simp; omega
    · intro j y hj
      refine hel j y ?_
      rw [List.map_take, List.getElem?_take] at hj
      split at hj
      · exact hj
      · cases hj
theorem valsOf_nil (F : Fr) : valsOf [] F = [] := rfl
theorem valsOf_cons (x : Opd) (l : List Opd) (F : Fr) : valsOf (x :: l) F = x.val F :: valsOf l F := rfl
theorem evX_st (n : Nat) (x v : Opd) (call : CallF) (F : Fr) (S : St) : evX (.st n x v) call F S = osel (v.val F).cells fun cs => xStV (x.val F) n cs S := rfl
theorem cells_int (k : IntKind) (n : Int) : (AV.int k n).cells = some [.int k n] := rfl
attribute [simp] valsOf_nil valsOf_cons evX_st cells_int
theorem evQ_slc (k : SlK) (x : Opd) (lo hi mx : Option Opd) (F : Fr) (h : T AB) : evQ (.slc k x lo hi mx) F h = slcV k (x.val F) lo hi mx F := rfl
theorem natOf_nonneg (k : IntKind) {z : Int} (h : 0 ≤ z) : natOf (.int k z) = some z.toNat := by
  obtain ⟨n, rfl⟩ := Int.eq_ofNat_of_zero_le h
  rfl
attribute [simp] evQ_slc natOf_nonneg
end Go.Ev.Gl

/- Plain arithmetic for division by limbs (Knuth's estimate of a digit). -/
namespace Go.Ev.Gl

/-- the estimate is at least the digit -/
theorem guess_ge {q V U top v1 p lu g r : Nat} (hU : U = top * p + lu) (hlu : lu < p) (hV : v1 * p ≤ V) (hq : q * V ≤ U) (hg : g * v1 + r = top) (hr : r < v1) : q ≤ g := by
  have h1 : q * (v1 * p) ≤ q * V := Nat.mul_le_mul_left q hV
  have h2 : q * v1 * p < (top + 1) * p := by rw [Nat.mul_assoc, Nat.add_mul]; omega
  have h3 : q * v1 < top + 1 := Nat.lt_of_mul_lt_mul_right h2
  rcases Nat.lt_or_ge g q with h | h
  · have h4 : (g + 1) * v1 ≤ q * v1 := Nat.mul_le_mul_right _ h
    rw [Nat.add_mul] at h4
    omega
  · exact h

/-- where the second limbs say so, the estimate is too great -/
theorem guess_gt {q V U top v1 v2 c p u2 lu g r : Nat} (hU : U = (top * c + u2) * p + lu) (hlu : lu < p) (hV : (v1 * c + v2) * p ≤ V) (hq : q * V ≤ U) (hg : g * v1 + r = top) (hge : q ≤ g) (h : r * c + u2 < g * v2) : q < g := by
  rcases Nat.lt_or_ge q g with h0 | h0
  · exact h0
  · have e : q = g := by omega
    subst e
    have h1 : q * ((v1 * c + v2) * p) ≤ q * V := Nat.mul_le_mul_left q hV
    have h2 : q * (v1 * c + v2) * p < (top * c + u2 + 1) * p := by rw [Nat.mul_assoc, Nat.add_mul _ 1]; omega
    have h3 : q * (v1 * c + v2) < top * c + u2 + 1 := Nat.lt_of_mul_lt_mul_right h2
    subst hg
    have e : q * (v1 * c + v2) = q * v1 * c + q * v2 := by rw [Nat.mul_add, Nat.mul_assoc]
    have e2 : (q * v1 + r) * c = q * v1 * c + r * c := Nat.add_mul ..
    rw [e] at h3
    rw [e2] at h3
    generalize q * v1 * c = k at *
    omega

/-- the estimate is at most one too great -/
theorem guess_le {V U top v1 v2 c p u2 lu lv g r : Nat} (hU : U = (top * c + u2) * p + lu) (hV : V = (v1 * c + v2) * p + lv) (hlv : lv < p) (hg : g * v1 + r = top) (hgc : g ≤ c) (hv1 : 0 < v1) (h : g * v2 ≤ r * c + u2) : g * V ≤ U + V := by
  have h1 : g * (v1 * c + v2) ≤ top * c + u2 := by
    subst hg
    have e : g * (v1 * c + v2) = g * v1 * c + g * v2 := by rw [Nat.mul_add, Nat.mul_assoc]
    rw [e, Nat.add_mul]
    omega
  have h2 : g * (v1 * c + v2) * p ≤ (top * c + u2) * p := Nat.mul_le_mul_right p h1
  have h3 : g * lv ≤ c * p := Nat.mul_le_mul hgc (Nat.le_of_lt hlv)
  have h4 : c * p ≤ V := by
    have : 1 * c ≤ v1 * c := Nat.mul_le_mul_right c hv1
    have h5 : c * p ≤ (v1 * c + v2) * p := Nat.mul_le_mul_right p (by omega)
    omega
  have e : g * V = g * (v1 * c + v2) * p + g * lv := by rw [hV, Nat.mul_add, Nat.mul_assoc]
  omega

/-- numbers below c in front of multiples -/
theorem low_unique {x y a b c : Nat} (hx : x < c) (hy : y < c) (h : x + a * c = y + b * c) : x = y ∧ a = b := by
  have e1 : (x + a * c) % c = x := by rw [Nat.add_mul_mod_self_right, Nat.mod_eq_of_lt hx]
  have e2 : (y + b * c) % c = y := by rw [Nat.add_mul_mod_self_right, Nat.mod_eq_of_lt hy]
  have e : x = y := by rw [← e1, ← e2, h]
  subst e
  refine ⟨rfl, ?_⟩
  have : a * c = b * c := by omega
  exact Nat.eq_of_mul_eq_mul_right (by omega) this

/-- subtract and carry: one limb -/
theorem msub_step {c ul uo g vl y x cr b t q r left cr' : Nat} (hinv : ul + g * vl = uo + cr * b) (ht : t = g * y + cr) (hqr : q * c + r = t) (hl : left + r + q * c = x + cr' * c) : (ul + b * left) + g * (vl + b * y) = (uo + b * x) + cr' * (b * c) := by
  have e1 : b * (left + r + q * c) = b * (x + cr' * c) := by rw [hl]
  have e2 : b * (q * c + r) = b * (g * y + cr) := by rw [hqr, ht]
  grind

theorem addb_step {c ul uo vl y x m b left m' : Nat} (hinv : ul + m * b = uo + vl) (hl : left + m' * c = x + y + m) : (ul + b * left) + m' * (b * c) = (uo + b * x) + (vl + b * y) := by
  have e1 : b * (left + m' * c) = b * (x + y + m) := by rw [hl]
  grind

/-- the digit is right: what is left behind the subtraction -/
theorem digit_ok {U V q g ul uo x cr P : Nat} (hU : U = uo + x * P) (hq1 : q * V ≤ U) (hq2 : U < (q + 1) * V) (hVP : V < P) (hge : q ≤ g) (hle : g * V ≤ U + V) (hinv : ul + g * V = uo + cr * P) (hul : ul < P) :
    (x < cr → g = q + 1 ∧ ∀ u2 m, u2 < P → u2 + m * P = ul + V → u2 = U - q * V) ∧ (¬ x < cr → g = q ∧ ul = U - q * V) := by
  have hg1 : g ≤ q + 1 := by
    rcases Nat.lt_or_ge (q + 1) g with h | h
    · have h1 : (q + 2) * V ≤ g * V := Nat.mul_le_mul_right V h
      have e : (q + 2) * V = (q + 1) * V + V := by grind
      omega
    · exact h
  constructor
  · intro h
    have hne : g ≠ q := by
      rintro rfl
      have : (x + 1) * P ≤ cr * P := Nat.mul_le_mul_right P h
      rw [Nat.add_mul] at this
      omega
    have e : g = q + 1 := by omega
    subst e
    refine ⟨rfl, fun u2 m hu hm => ?_⟩
    have e1 : (q + 1) * V = q * V + V := by rw [Nat.add_mul]; omega
    rw [e1] at hinv hq2
    obtain ⟨r, hr⟩ : ∃ r, U = q * V + r := ⟨U - q * V, by omega⟩
    have hrV : r < V := by omega
    have key : r + cr * P = u2 + (m + x) * P := by rw [Nat.add_mul]; omega
    have := (low_unique (by omega) hu key).1
    omega
  · intro h
    have e : g = q := by
      rcases Nat.lt_or_ge q g with h0 | h0
      · have h1 : (q + 1) * V ≤ g * V := Nat.mul_le_mul_right V h0
        have h2 : cr * P ≤ x * P := Nat.mul_le_mul_right P (by omega)
        omega
      · omega
    subst e
    refine ⟨rfl, ?_⟩
    obtain ⟨r, hr⟩ : ∃ r, U = g * V + r := ⟨U - g * V, by omega⟩
    have e1 : (g + 1) * V = g * V + V := by rw [Nat.add_mul]; omega
    have key : r + cr * P = ul + x * P := by omega
    have := (low_unique (by omega) hul key).1
    omega
end Go.Ev.Gl

/- Plain arithmetic: trailing zeros, the greatest common divisor by halving. -/
namespace Go.Ev.Gl

/-- x has k zeros at its end -/
def Tz (x k : Nat) : Prop := ∃ m, x = 2 ^ k * (2 * m + 1)

theorem tz_ex : ∀ {x : Nat}, 0 < x → ∃ k, Tz x k := by
  intro x
  induction x using Nat.strongRecOn with
  | _ x ih =>
    intro hx
    rcases Nat.mod_two_eq_zero_or_one x with h | h
    · obtain ⟨k, m, hk⟩ := ih (x / 2) (by omega) (by omega)
      refine ⟨k + 1, m, ?_⟩
      have : x = 2 * (x / 2) := by omega
      rw [this, hk, Nat.pow_succ]
      grind
    · exact ⟨0, x / 2, by simp; omega⟩

theorem Tz.pos {x k : Nat} (h : Tz x k) : 0 < x := by
  obtain ⟨m, rfl⟩ := h
  exact Nat.mul_pos (Nat.pow_pos (by decide)) (by omega)

theorem Tz.lt {x k n : Nat} (h : Tz x k) (hx : x < 2 ^ n) : k < n := by
  obtain ⟨m, rfl⟩ := h
  rcases Nat.lt_or_ge k n with h | h
  · exact h
  · have h1 : 2 ^ n ≤ 2 ^ k := Nat.pow_le_pow_right (by decide) h
    have h2 : 2 ^ k * 1 ≤ 2 ^ k * (2 * m + 1) := Nat.mul_le_mul_left _ (by omega)
    omega

theorem tz_and {x k n : Nat} (h : Tz x k) (hx : x < 2 ^ n) : Nat.land x (2 ^ n - x) = 2 ^ k := by
  have hk := h.lt hx
  have h0 := h.pos
  obtain ⟨m, e⟩ := h
  show x &&& (2 ^ n - x) = 2 ^ k
  apply Nat.eq_of_testBit_eq
  intro i
  have e1 : 2 ^ n - x = 2 ^ n - ((x - 1) + 1) := by congr 1; omega
  rw [Nat.testBit_and, e1, Nat.testBit_two_pow_sub_succ (by omega), Nat.testBit_two_pow]
  have ex : x = 2 ^ k * (2 * m + 1) + 0 := by omega
  have ey : x - 1 = 2 ^ k * (2 * m) + (2 ^ k - 1) := by
    have := Nat.pow_pos (n := k) (show 0 < 2 by decide)
    rw [e, Nat.mul_add]; omega
  have hp := Nat.pow_pos (n := k) (show 0 < 2 by decide)
  rw [ey, Nat.testBit_two_pow_mul_add _ (by omega)]
  rw [ex, Nat.testBit_two_pow_mul_add _ (by omega)]
  by_cases h1 : i < k
  · rw [if_pos h1, if_pos h1]
    have : k ≠ i := by omega
    simp [this]
  · rw [if_neg h1, if_neg h1]
    by_cases h2 : i = k
    · subst h2
      simp [hk]
    · have h3 : ∃ j, i - k = j + 1 := ⟨i - k - 1, by omega⟩
      obtain ⟨j, hj⟩ := h3
      have h4 : k ≠ i := fun e => h2 e.symm
      rw [hj, Nat.testBit_succ, Nat.testBit_succ]
      have e2 : (2 * m + 1) / 2 = m := by omega
      have e3 : 2 * m / 2 = m := by omega
      rw [e2, e3]
      cases m.testBit j <;> simp [h4]

theorem tz_or {a b i j : Nat} (ha : Tz a i) (hb : Tz b j) : Tz (Nat.lor a b) (min i j) := by
  have key : ∀ {a b i j : Nat}, i ≤ j → Tz a i → Tz b j → Tz (a ||| b) i := by
    rintro a b i j hij ⟨m, rfl⟩ ⟨l, rfl⟩
    have ej : 2 ^ j * (2 * l + 1) = 2 ^ i * (2 ^ (j - i) * (2 * l + 1)) := by
      rw [← Nat.mul_assoc, ← Nat.pow_add]; congr 2; omega
    rw [ej]
    generalize 2 ^ (j - i) * (2 * l + 1) = c
    refine ⟨((2 * m + 1) ||| c) / 2, ?_⟩
    have e1 : 2 ^ i * (2 * m + 1) ||| 2 ^ i * c = 2 ^ i * ((2 * m + 1) ||| c) := by
      apply Nat.eq_of_testBit_eq
      intro t
      rw [Nat.testBit_or]
      have f : ∀ z, (2 ^ i * z).testBit t = if t < i then false else z.testBit (t - i) := fun z => by
        have := Nat.testBit_two_pow_mul_add z (b := 0) (i := i) (Nat.pow_pos (by decide)) t
        simpa using this
      rw [f, f, f]
      split
      · rfl
      · rw [Nat.testBit_or]
    rw [e1]
    congr 1
    have e2 : ((2 * m + 1) ||| c) % 2 = 1 := by
      have h0 : ((2 * m + 1) ||| c).testBit 0 = true := by rw [Nat.testBit_or]; simp
      rw [Nat.testBit_zero] at h0
      exact of_decide_eq_true h0
    omega
  rcases Nat.le_total i j with h | h
  · rw [Nat.min_eq_left h]; exact key h ha hb
  · rw [Nat.min_eq_right h]
    have := key h hb ha
    show Tz (a ||| b) j
    rw [Nat.or_comm]; exact this

theorem Tz.odd {x k : Nat} (h : Tz x k) : x / 2 ^ k % 2 = 1 ∧ x = 2 ^ k * (x / 2 ^ k) ∧ 0 < x / 2 ^ k := by
  obtain ⟨m, rfl⟩ := h
  rw [Nat.mul_div_cancel_left _ (Nat.pow_pos (by decide))]
  refine ⟨by omega, rfl, by omega⟩

theorem pow2_coprime {a : Nat} (h : a % 2 = 1) (k : Nat) : Nat.Coprime (2 ^ k) a := by
  apply Nat.Coprime.pow_left
  show Nat.gcd 2 a = 1
  rw [Nat.gcd_rec, h]
  decide

/-- factors two of one number do not matter where the other is odd -/
theorem gcd_odd {a b k : Nat} (ha : a % 2 = 1) : Nat.gcd a (2 ^ k * b) = Nat.gcd a b := by
  rw [Nat.gcd_comm, Nat.Coprime.gcd_mul_left_cancel _ (pow2_coprime ha k), Nat.gcd_comm]

theorem gcd_split {a b i j : Nat} (ha : Tz a i) (hb : Tz b j) : Nat.gcd a b = 2 ^ (min i j) * Nat.gcd (a / 2 ^ i) b := by
  obtain ⟨a1, a2, a3⟩ := ha.odd
  obtain ⟨b1, b2, b3⟩ := hb.odd
  generalize a / 2 ^ i = x at *
  generalize b / 2 ^ j = y at *
  rw [a2, b2, gcd_odd a1]
  rcases Nat.le_total i j with h | h
  · rw [Nat.min_eq_left h]
    have e : 2 ^ j * y = 2 ^ i * (2 ^ (j - i) * y) := by rw [← Nat.mul_assoc, ← Nat.pow_add]; congr 2; omega
    rw [e, Nat.gcd_mul_left, gcd_odd a1]
  · rw [Nat.min_eq_right h]
    have e : 2 ^ i * x = 2 ^ j * (2 ^ (i - j) * x) := by rw [← Nat.mul_assoc, ← Nat.pow_add]; congr 2; omega
    rw [e, Nat.gcd_mul_left, Nat.gcd_comm, gcd_odd b1, Nat.gcd_comm]

theorem gcd_sub {a b : Nat} (h : a ≤ b) : Nat.gcd a (b - a) = Nat.gcd a b := by
  rw [Nat.gcd_comm, Nat.gcd_sub_self_left h, Nat.gcd_comm]

/-- the table of the bits package: where one bit stands -/
def bruijn : List Nat := [0, 1, 56, 2, 57, 49, 28, 3, 61, 58, 42, 50, 38, 29, 17, 4, 62, 47, 59, 36, 45, 43, 51, 22, 53, 39, 33, 30, 24, 18, 12, 5, 63, 55, 48, 27, 60, 41, 37, 16, 46, 35, 44, 21, 52, 32, 23, 11, 54, 26, 40, 15, 34, 20, 31, 10, 25, 14, 19, 9, 13, 8, 7, 6]
theorem bruijn_all : ∀ k, k < 64 → bruijn[(2 ^ k * 285870213051353865 % 2 ^ 64) / 2 ^ 58]? = some k := by decide
end Go.Ev.Gl

/- Plain arithmetic: Lehmer's steps of Euclid's algorithm. -/
namespace Go.Ev.Gl

theorem leh_exact {A C f g p e w x y z q r1 r2 tens d : Int} (hw : 0 ≤ w) (hx : x ≤ 0) (hy : y ≤ 0) (hz : 0 ≤ z) (hf : 0 ≤ f) (hfd : f < d) (hg : 0 ≤ g) (hgd : g < d)
    (hA : tens * A = p * d + (w * f + x * g)) (hC : tens * C = e * d + (y * f + z * g)) (h1 : p + w = q * (e + y) + r1) (h1l : r1 < e + y) (h2 : p + x = q * (e + z) + r2) (h2n : 0 ≤ r2) (hq : 0 ≤ q) (ht : 0 < tens) :
    q * C ≤ A ∧ A < (q + 1) * C := by
  have hd : 0 ≤ d := by omega
  have a1 : 0 ≤ w * f := Int.mul_nonneg hw hf
  have a2 : w * f ≤ w * d := Int.mul_le_mul_of_nonneg_left (by omega) hw
  have a3 : 0 ≤ (-x) * g := Int.mul_nonneg (by omega) hg
  have a4 : (-x) * g ≤ (-x) * d := Int.mul_le_mul_of_nonneg_left (by omega) (by omega)
  have a5 : 0 ≤ z * g := Int.mul_nonneg hz hg
  have a6 : z * g ≤ z * d := Int.mul_le_mul_of_nonneg_left (by omega) hz
  have a7 : 0 ≤ (-y) * f := Int.mul_nonneg (by omega) hf
  have a8 : (-y) * f ≤ (-y) * d := Int.mul_le_mul_of_nonneg_left (by omega) (by omega)
  rw [Int.neg_mul] at a3 a4 a7 a8
  rw [Int.neg_mul] at a4 a8
  constructor
  · have b1 : tens * C ≤ (e + z) * d := by rw [Int.add_mul]; omega
    have b2 : q * (tens * C) ≤ q * ((e + z) * d) := Int.mul_le_mul_of_nonneg_left b1 hq
    have b3 : (p + x) * d ≤ tens * A := by rw [Int.add_mul]; omega
    have b4 : 0 ≤ r2 * d := Int.mul_nonneg h2n hd
    have b5 : (p + x) * d = q * ((e + z) * d) + r2 * d := by rw [h2, Int.add_mul, Int.mul_assoc]
    have b6 : tens * (q * C) ≤ tens * A := by
      have : tens * (q * C) = q * (tens * C) := by grind
      omega
    exact Int.le_of_mul_le_mul_left b6 ht
  · have b1 : (e + y) * d ≤ tens * C := by rw [Int.add_mul]; omega
    have b2 : (q + 1) * ((e + y) * d) ≤ (q + 1) * (tens * C) := Int.mul_le_mul_of_nonneg_left b1 (by omega)
    have b3 : tens * A ≤ (p + w) * d := by rw [Int.add_mul]; omega
    have b4 : (p + w + 1) * d ≤ ((q + 1) * (e + y)) * d := by
      apply Int.mul_le_mul_of_nonneg_right _ hd
      rw [h1, Int.add_mul q 1]
      omega
    rw [Int.add_mul (p + w) 1, Int.mul_assoc (q + 1)] at b4
    have b6 : tens * A < tens * ((q + 1) * C) := by
      have : tens * ((q + 1) * C) = (q + 1) * (tens * C) := by grind
      omega
    exact Int.lt_of_mul_lt_mul_left b6 (by omega)

/-- no product of a step is too long -/
theorem leh_small {p e x y z q r2 M : Int} (hy : y ≤ 0) (hz : 0 ≤ z) (hpx : p + x ≤ M) (hey : 0 < e + y) (h2 : p + x = q * (e + z) + r2) (h2n : 0 ≤ r2) (hq : 0 ≤ q) :
    0 ≤ q * e ∧ q * e ≤ M ∧ -M ≤ q * y ∧ q * y ≤ 0 ∧ 0 ≤ q * z ∧ q * z ≤ M := by
  have b1 : q * (e + z) ≤ M := by omega
  have a1 : 0 ≤ q * e := Int.mul_nonneg hq (by omega)
  have a2 : 0 ≤ q * z := Int.mul_nonneg hq hz
  have a3 : 0 ≤ q * (-y) := Int.mul_nonneg hq (by omega)
  have a4 : 0 ≤ q * (e + y) := Int.mul_nonneg hq (by omega)
  rw [Int.mul_add] at b1 a4
  rw [Int.mul_neg] at a3
  omega

/-- a b: the numbers; P E: their first digits, f g: what is behind them; p e: the digits now; w x y z: the factors, with signs that alternate -/
structure Leh (a b P E p e w x y z : Int) : Prop where
  signs : (0 ≤ w ∧ x ≤ 0 ∧ y ≤ 0 ∧ 0 ≤ z) ∨ (w ≤ 0 ∧ 0 ≤ x ∧ 0 ≤ y ∧ z ≤ 0)
  det : w * z - x * y = 1 ∨ w * z - x * y = -1
  hp : p = w * P + x * E
  he : e = y * P + z * E
  pw : 0 ≤ p + w ∧ p + w ≤ 1000000000000000000
  px : 0 ≤ p + x ∧ p + x ≤ 1000000000000000000
  ey : 0 ≤ e + y ∧ e + y ≤ 1000000000000000000
  ez : 0 ≤ e + z ∧ e + z ≤ 1000000000000000000
  size : -1000000000 < w ∧ w < 1000000000 ∧ -1000000000 < x ∧ x < 1000000000 ∧ -1000000000 < y ∧ y < 1000000000 ∧ -1000000000 < z ∧ z < 1000000000
  low : 0 ≤ y * a + z * b
  made : (w = 1 ∧ x = 0 ∧ y = 0 ∧ z = 1) ∨ (y * a + z * b < w * a + x * b ∧ w * a + x * b ≤ b)

theorem Leh.start {a b P E : Int} (hb : 0 ≤ b) (hE : 0 ≤ E) (hEP : E ≤ P) (hP : P < 1000000000000000000) : Leh a b P E P E 1 0 0 1 :=
  ⟨.inl (by omega), .inl (by omega), by omega, by omega, by omega, by omega, by omega, by omega, by omega, by omega, .inl (by omega)⟩

theorem Leh.step {a b P E p e w x y z f g tens d q : Int} (h : Leh a b P E p e w x y z) (hab : b ≤ a) (ht : 0 < tens) (hf : 0 ≤ f) (hfd : f < d) (hg : 0 ≤ g) (hgd : g < d) (ha : tens * a = P * d + f) (hb : tens * b = E * d + g)
    (h1 : e + y ≠ 0) (h2 : e + z ≠ 0) (hq1 : q = (p + w) / (e + y)) (hq2 : q = (p + x) / (e + z)) :
    (0 ≤ q * e ∧ q * e ≤ 1000000000000000000 ∧ -1000000000000000000 ≤ q * y ∧ q * y ≤ 1000000000000000000 ∧ -1000000000000000000 ≤ q * z ∧ q * z ≤ 1000000000000000000) ∧
    (-1000000000 < w - q * y → w - q * y < 1000000000 → -1000000000 < x - q * z → x - q * z < 1000000000 → Leh a b P E e (p - q * e) y z (w - q * y) (x - q * z) ∧ (w - q * y) * a + (x - q * z) * b < y * a + z * b) := by
  have hey := h.ey
  have hez := h.ez
  have hpw := h.pw
  have hpx := h.px
  have p1 : 0 < e + y := by omega
  have p2 : 0 < e + z := by omega
  have hq : 0 ≤ q := by rw [hq1]; exact Int.ediv_nonneg hpw.1 hey.1
  have e1 := Int.mul_ediv_add_emod (p + w) (e + y)
  have e2 := Int.mul_ediv_add_emod (p + x) (e + z)
  have m1 := Int.emod_nonneg (p + w) h1
  have m2 := Int.emod_nonneg (p + x) h2
  have l1 := Int.emod_lt_of_pos (p + w) p1
  have l2 := Int.emod_lt_of_pos (p + x) p2
  rw [← hq1] at e1
  rw [← hq2] at e2
  generalize (p + w) % (e + y) = r1 at *
  generalize (p + x) % (e + z) = r2 at *
  have e1 : p + w = q * (e + y) + r1 := by rw [Int.mul_comm]; omega
  have e2 : p + x = q * (e + z) + r2 := by rw [Int.mul_comm]; omega
  have hA : tens * (w * a + x * b) = p * d + (w * f + x * g) := by
    have : tens * (w * a + x * b) = w * (tens * a) + x * (tens * b) := by grind
    rw [this, ha, hb, h.hp]; grind
  have hC : tens * (y * a + z * b) = e * d + (y * f + z * g) := by
    have : tens * (y * a + z * b) = y * (tens * a) + z * (tens * b) := by grind
    rw [this, ha, hb, h.he]; grind
  have hex : q * (y * a + z * b) ≤ w * a + x * b ∧ w * a + x * b < (q + 1) * (y * a + z * b) := by
    rcases h.signs with ⟨s1, s2, s3, s4⟩ | ⟨s1, s2, s3, s4⟩
    · exact leh_exact s1 s2 s3 s4 hf hfd hg hgd hA hC e1 l1 e2 m2 hq ht
    · exact leh_exact s2 s1 s4 s3 hg hgd hf hfd (by rw [hA]; omega) (by rw [hC]; omega) e2 l2 e1 m1 hq ht
  refine ⟨?_, ?_⟩
  · rcases h.signs with ⟨s1, s2, s3, s4⟩ | ⟨s1, s2, s3, s4⟩
    · have := leh_small s3 s4 hpx.2 p1 e2 m2 hq
      omega
    · have := leh_small s4 s3 hpw.2 p2 e1 m1 hq
      omega
  · intro z1 z2 z3 z4
    have eB : (w - q * y) * a + (x - q * z) * b = (w * a + x * b) - q * (y * a + z * b) := by grind
    have hlow := h.low
    rw [Int.add_mul] at hex
    refine ⟨⟨?_, ?_, h.he, ?_, hey, hez, ?_, ?_, ?_, ?_, .inr ?_⟩, by omega⟩
    · rcases h.signs with ⟨s1, s2, s3, s4⟩ | ⟨s1, s2, s3, s4⟩
      · have a1 := Int.mul_nonneg hq (show 0 ≤ -y by omega)
        have a2 := Int.mul_nonneg hq s4
        rw [Int.mul_neg] at a1
        exact .inr (by omega)
      · have a1 := Int.mul_nonneg hq (show 0 ≤ -z by omega)
        have a2 := Int.mul_nonneg hq s3
        rw [Int.mul_neg] at a1
        exact .inl (by omega)
    · have : y * (x - q * z) - z * (w - q * y) = -(w * z - x * y) := by grind
      rw [this]
      rcases h.det with h | h <;> rw [h]
      · exact .inr rfl
      · exact .inl rfl
    · rw [h.hp, h.he]; grind
    · have : p - q * e + (w - q * y) = r1 := by rw [Int.mul_add] at e1; omega
      rw [this]; omega
    · have : p - q * e + (x - q * z) = r2 := by rw [Int.mul_add] at e2; omega
      rw [this]; omega
    · have := h.size
      omega
    · omega
    · rcases h.made with ⟨rfl, rfl, rfl, rfl⟩ | ⟨k1, k2⟩
      · omega
      · omega

/-- the greatest common divisor of what the factors make -/
theorem leh_gcd {w x y z : Int} {a b a' b' : Nat} (h : w * z - x * y = 1 ∨ w * z - x * y = -1) (ha : (a' : Int) = w * a + x * b) (hb : (b' : Int) = y * a + z * b) : Nat.gcd a' b' = Nat.gcd a b := by
  apply Nat.dvd_antisymm
  · have d1 : ((Nat.gcd a' b' : Nat) : Int) ∣ a' := Int.natCast_dvd_natCast.2 (Nat.gcd_dvd_left ..)
    have d2 : ((Nat.gcd a' b' : Nat) : Int) ∣ b' := Int.natCast_dvd_natCast.2 (Nat.gcd_dvd_right ..)
    have k1 : (w * z - x * y) * (a : Int) = z * a' - x * b' := by rw [ha, hb]; grind
    have k2 : (w * z - x * y) * (b : Int) = w * b' - y * a' := by rw [ha, hb]; grind
    have g1 : ((Nat.gcd a' b' : Nat) : Int) ∣ (w * z - x * y) * (a : Int) := by rw [k1]; exact Int.dvd_sub (Int.dvd_mul_of_dvd_right d1) (Int.dvd_mul_of_dvd_right d2)
    have g2 : ((Nat.gcd a' b' : Nat) : Int) ∣ (w * z - x * y) * (b : Int) := by rw [k2]; exact Int.dvd_sub (Int.dvd_mul_of_dvd_right d2) (Int.dvd_mul_of_dvd_right d1)
    apply Nat.dvd_gcd
    · rcases h with h | h <;> rw [h] at g1
      · rw [Int.one_mul] at g1; exact Int.natCast_dvd_natCast.1 g1
      · rw [Int.neg_one_mul, Int.dvd_neg] at g1; exact Int.natCast_dvd_natCast.1 g1
    · rcases h with h | h <;> rw [h] at g2
      · rw [Int.one_mul] at g2; exact Int.natCast_dvd_natCast.1 g2
      · rw [Int.neg_one_mul, Int.dvd_neg] at g2; exact Int.natCast_dvd_natCast.1 g2
  · have d1 : ((Nat.gcd a b : Nat) : Int) ∣ a := Int.natCast_dvd_natCast.2 (Nat.gcd_dvd_left ..)
    have d2 : ((Nat.gcd a b : Nat) : Int) ∣ b := Int.natCast_dvd_natCast.2 (Nat.gcd_dvd_right ..)
    apply Nat.dvd_gcd
    · apply Int.natCast_dvd_natCast.1
      rw [ha]; exact Int.dvd_add (Int.dvd_mul_of_dvd_right d1) (Int.dvd_mul_of_dvd_right d2)
    · apply Int.natCast_dvd_natCast.1
      rw [hb]; exact Int.dvd_add (Int.dvd_mul_of_dvd_right d1) (Int.dvd_mul_of_dvd_right d2)
end Go.Ev.Gl

/- Plain arithmetic: the first digits of a number. -/
namespace Go.Ev.Gl
theorem lead_first {l1 l2 l3 low tens k p : Nat} (hlow : low < p) (ht : 0 < tens) (hk : 0 < k) :
    ∃ f, tens * (low + p * (l3 + tens * k * (l2 + tens * k * l1))) = ((l1 * (tens * k) + l2) * tens + l3 * tens / (tens * k)) * (p * (tens * k)) + f ∧ f < p * (tens * k) := by
  have hdm := Nat.div_add_mod (l3 * tens) (tens * k)
  have hm : l3 * tens % (tens * k) = tens * (l3 % k) := by rw [Nat.mul_comm l3, Nat.mul_mod_mul_left]
  have hlt : l3 % k < k := Nat.mod_lt _ hk
  rw [hm] at hdm
  generalize l3 * tens / (tens * k) = u at *
  generalize l3 % k = r at *
  refine ⟨tens * low + p * (tens * r), ?_, ?_⟩
  · have : l3 * tens = tens * k * u + tens * r := hdm.symm
    have e : p * (l3 * tens) = p * (tens * k * u + tens * r) := by rw [this]
    grind
  · have h1 : tens * (low + 1) ≤ tens * p := Nat.mul_le_mul_left _ hlow
    have h2 : p * (tens * (r + 1)) ≤ p * (tens * k) := Nat.mul_le_mul_left _ (Nat.mul_le_mul_left _ hlt)
    have e1 : p * (tens * (r + 1)) = p * (tens * r) + tens * p := by grind
    have e2 : tens * (low + 1) = tens * low + tens := by grind
    omega

theorem lead_lt {l1 l2 l3 low tens k p : Nat} (hlow : low < p) (h3 : l3 < tens * k) (h2 : l2 < tens * k) (h1 : l1 * tens < tens * k) : (l1 * (tens * k) + l2) * tens + l3 * tens / (tens * k) < tens * k * (tens * k) := by
  have ht : 0 < tens := by
    rcases Nat.eq_zero_or_pos tens with h | h
    · subst h; simp at h1
    · exact h
  have hk : l1 < k := by rw [Nat.mul_comm tens] at h1; exact Nat.lt_of_mul_lt_mul_right h1
  have hd : l3 * tens / (tens * k) < tens := by
    rw [Nat.div_lt_iff_lt_mul (by omega)]
    rw [Nat.mul_comm]
    exact Nat.mul_lt_mul_of_pos_left h3 ht
  have g1 : (l1 + 1) * (tens * k) * tens ≤ k * (tens * k) * tens := Nat.mul_le_mul_right _ (Nat.mul_le_mul_right _ hk)
  have g2 : (l2 + 1) * tens ≤ tens * k * tens := Nat.mul_le_mul_right _ h2
  have e1 : (l1 + 1) * (tens * k) * tens = l1 * (tens * k) * tens + tens * k * tens := by grind
  have e2 : (l1 * (tens * k) + l2) * tens = l1 * (tens * k) * tens + l2 * tens := Nat.add_mul ..
  have e3 : (l2 + 1) * tens = l2 * tens + tens := by grind
  have e4 : k * (tens * k) * tens = tens * k * (tens * k) := by grind
  omega
end Go.Ev.Gl

/- Plain arithmetic: rational numbers in lowest terms (the core library's Rat). -/
namespace Go.Ev.Gl

/-- a number with a sign -/
def sg (neg : Bool) (n : Nat) : Int := if neg then -(n : Int) else n
theorem sg_natAbs (neg : Bool) (n : Nat) : (sg neg n).natAbs = n := by cases neg <;> simp [sg]
theorem rat_mk {n : Int} {d : Nat} (hd : d ≠ 0) (hc : n.natAbs.Coprime d) : (mkRat n d).num = n ∧ (mkRat n d).den = d := by
  rw [← Rat.mk_eq_mkRat n d hd hc]
  exact ⟨rfl, rfl⟩

end Go.Ev.Gl
