/- Natural numbers in limbs, rational numbers in lowest terms: plain facts; rules as equations. -/
import Derived.Test.YtoojnpjgnnpllaaEv8
set_option maxHeartbeats 4000000
set_option linter.unusedSimpArgs false
set_option linter.unusedVariables false
/- Natural numbers in limbs of base 10^9, lowest limb first: plain facts, no program in sight. -/
namespace Go.Ev.Gl

def B : Nat := 1000000000
theorem B_pos : 0 < B := by decide

def val : List Nat → Nat
  | [] => 0
  | x :: l => x + B * val l

def Small (l : List Nat) : Prop := ∀ x ∈ l, x < B
/-- limbs in range, the last one not zero -/
def Norm (l : List Nat) : Prop := Small l ∧ l.getLast? ≠ some 0

theorem val_nil : val [] = 0 := rfl
theorem val_cons (x : Nat) (l : List Nat) : val (x :: l) = x + B * val l := rfl
theorem val_append : ∀ (l m : List Nat), val (l ++ m) = val l + B ^ l.length * val m
  | [], m => by simp [val_nil]
  | x :: l, m => by
    simp only [List.cons_append, val_cons, val_append l m, List.length_cons, Nat.pow_succ, Nat.mul_add]
    rw [Nat.mul_comm (B ^ l.length) B, Nat.mul_assoc]
    omega
theorem val_snoc (l : List Nat) (x : Nat) : val (l ++ [x]) = val l + B ^ l.length * x := by rw [val_append]; simp [val_cons, val_nil]
theorem Small.nil : Small [] := fun x h => by cases h
theorem Small.cons {x : Nat} {l : List Nat} : Small (x :: l) ↔ x < B ∧ Small l := by simp [Small]
theorem Small.append {l m : List Nat} : Small (l ++ m) ↔ Small l ∧ Small m := by
  unfold Small
  constructor
  · intro h; exact ⟨fun x hx => h x (by simp [hx]), fun x hx => h x (by simp [hx])⟩
  · rintro ⟨h1, h2⟩ x hx
    rcases List.mem_append.1 hx with hx | hx
    · exact h1 x hx
    · exact h2 x hx
theorem Small.take {l : List Nat} (h : Small l) (n : Nat) : Small (l.take n) := fun x hx => h x (List.mem_of_mem_take hx)
theorem Small.get {l : List Nat} (h : Small l) {i x : Nat} (hx : l[i]? = some x) : x < B := h x (List.mem_of_getElem? hx)

theorem val_lt : ∀ {l : List Nat}, Small l → val l < B ^ l.length
  | [], _ => by simp [val_nil]
  | x :: l, h => by
    rw [Small.cons] at h
    have ih := val_lt h.2
    rw [val_cons, List.length_cons, Nat.pow_succ, Nat.mul_comm]
    have : val l * B + B ≤ B ^ l.length * B := by
      have := Nat.mul_le_mul_right B (Nat.succ_le_of_lt ih)
      rw [Nat.succ_mul] at this
      exact this
    have := h.1
    omega

/-- numbers that no machine is too small for -/
def Fits (n : Nat) : Prop := n < B ^ 100000
theorem lt_pow_up {n i j : Nat} (h : n < B ^ i) (hi : i ≤ j) : n < B ^ j := Nat.lt_of_lt_of_le h (Nat.pow_le_pow_right B_pos hi)
theorem Fits.of {n i : Nat} (h : n < B ^ i) (hi : i ≤ 100000) : Fits n := by unfold Fits; exact lt_pow_up (j := 100000) h hi
theorem Fits.mono {n m : Nat} (h : Fits m) (hn : n ≤ m) : Fits n := Nat.lt_of_le_of_lt hn h
theorem norm_low {l : List Nat} (h : Norm l) (hne : l ≠ []) : B ^ (l.length - 1) ≤ val l := by
  obtain ⟨m', x, rfl⟩ : ∃ m' x, l = m' ++ [x] := ⟨l.dropLast, l.getLast hne, (List.dropLast_concat_getLast hne).symm⟩
  have hx : x ≠ 0 := by
    intro e
    apply h.2
    simp [e]
  rw [val_snoc]
  have h3 : B ^ m'.length * 1 ≤ B ^ m'.length * x := Nat.mul_le_mul_left _ (by omega)
  simp
  omega
theorem len_le {l : List Nat} {K : Nat} (h : Norm l) (hv : val l < B ^ K) : l.length ≤ K := by
  by_cases hne : l = []
  · subst hne; simp
  · have h1 := norm_low h hne
    rcases Nat.lt_or_ge K l.length with h2 | h2
    · have : B ^ K ≤ B ^ (l.length - 1) := Nat.pow_le_pow_right B_pos (by omega)
      omega
    · exact h2
theorem Fits.len {l : List Nat} (h : Norm l) (hv : Fits (val l)) : l.length ≤ 100000 := len_le h hv
end Go.Ev.Gl

namespace Go.Ev.Gl
variable {fns : T AFn}

/-! ## The rules, ready for 'simp' -/
theorem isB_bool (a b : Bool) : isB (.bool a) b = (a == b) := by cases a <;> cases b <;> rfl
theorem wpo_gE {d : Option Nat} {op : AOp} {s : Nat} {b : Bool} {m : Nat} {l : List AO} {F : Fr} {S : St} {Q : Fr → St → Prop} : wpo fns (⟨d, op, some (s, b), m⟩ :: l) F S Q ↔ if isB (tmpV s F) b = true then wpo fns (⟨d, op, none, m⟩ :: l) F S Q else wpo fns l (putF d F .undef) S Q := by
  have e : ∀ call, evOp ⟨d, op, some (s, b), m⟩ call F S = bsel (isB (tmpV s F) b) (evOp ⟨d, op, none, m⟩ call F S) (some (putF d F .undef, S)) := fun call => by
    cases op <;> rfl
  constructor
  · rintro ⟨n, F', S', h1, h2⟩
    rw [evOps_cons, e] at h1
    cases hb : isB (tmpV s F) b with
    | true =>
      rw [hb, bsel_true] at h1
      rw [if_pos rfl]
      exact ⟨n, F', S', by rw [evOps_cons]; exact h1, h2⟩
    | false =>
      rw [hb, bsel_false, osel_some] at h1
      rw [if_neg (by simp)]
      exact ⟨n, F', S', h1, h2⟩
  · intro h
    cases hb : isB (tmpV s F) b with
    | true =>
      rw [hb, if_pos rfl] at h
      obtain ⟨n, F', S', h1, h2⟩ := h
      refine ⟨n, F', S', ?_, h2⟩
      rw [evOps_cons, e, hb, bsel_true, ← evOps_cons]
      exact h1
    | false =>
      rw [hb, if_neg (by simp)] at h
      obtain ⟨n, F', S', h1, h2⟩ := h
      refine ⟨n, F', S', ?_, h2⟩
      rw [evOps_cons, e, hb, bsel_false, osel_some]
      exact h1

theorem wpo_onE {d : Option Nat} {op : AOp} {s : Nat} {b : Bool} {m : Nat} {l : List AO} {F : Fr} {S : St} {Q : Fr → St → Prop} (hg : tmpV s F = .bool b) : wpo fns (⟨d, op, some (s, b), m⟩ :: l) F S Q ↔ wpo fns (⟨d, op, none, m⟩ :: l) F S Q := by
  rw [wpo_gE, hg, isB_bool, if_pos (by simp)]
theorem wpo_offE {d : Option Nat} {op : AOp} {s : Nat} {b : Bool} {m : Nat} {l : List AO} {F : Fr} {S : St} {Q : Fr → St → Prop} (hg : tmpV s F = .bool (!b)) : wpo fns (⟨d, op, some (s, b), m⟩ :: l) F S Q ↔ wpo fns l (putF d F .undef) S Q := by
  rw [wpo_gE, hg, isB_bool, if_neg (by cases b <;> simp)]
theorem wpc_yes {c : Opd} {x y : AC} {A : Act'} {S : St} {Q : Out → Act' → St → Prop} (hc : c.val A.F = .bool true) (h : wpc fns x A S Q) : wpc fns (.cond c x y) A S Q := wpc_if hc (fun _ => h) (fun h => by cases h)
theorem wpc_non {c : Opd} {x y : AC} {A : Act'} {S : St} {Q : Out → Act' → St → Prop} (hc : c.val A.F = .bool false) (h : wpc fns y A S Q) : wpc fns (.cond c x y) A S Q := wpc_if hc (fun h => by cases h) (fun _ => h)
theorem wsr {ops : List AO} {y : AC} {A : Act'} {S : St} {Q : Out → Act' → St → Prop} (h : wpo fns ops A.F S fun F' S' => thenQ fns y Q .normal ⟨F', A.inr⟩ S') : wpc fns (.seq (.reg ops) y) A S Q := wpc_seq (wpc_reg h)
theorem wss {ops : List AO} {y z : AC} {A : Act'} {S : St} {Q : Out → Act' → St → Prop} (h : wpo fns ops A.F S fun F' S' => thenQ fns y (thenQ fns z Q) .normal ⟨F', A.inr⟩ S') : wpc fns (.seq (.seq (.reg ops) y) z) A S Q := wpc_seq (wpc_seq (wpc_reg h))
theorem thenQ_normal (y : AC) (Q : Out → Act' → St → Prop) (A : Act') (S : St) : thenQ fns y Q .normal A S = wpc fns y A S Q := rfl
theorem thenQ_ret (y : AC) (Q : Out → Act' → St → Prop) (A : Act') (S : St) : thenQ fns y Q .ret A S = Q .ret A S := rfl
theorem thenQ_exit (y : AC) (Q : Out → Act' → St → Prop) (A : Act') (S : St) (i : Nat) : thenQ fns y Q (.exit i) A S = Q (.exit i) A S := rfl
theorem blockQ_normal (id : Nat) (Q : Out → Act' → St → Prop) (A : Act') (S : St) : blockQ id Q .normal A S = Q .normal A S := rfl
theorem blockQ_ret (id : Nat) (Q : Out → Act' → St → Prop) (A : Act') (S : St) : blockQ id Q .ret A S = Q .ret A S := rfl
theorem blockQ_exit (id i : Nat) (Q : Out → Act' → St → Prop) (A : Act') (S : St) : blockQ id Q (.exit i) A S = if i = id then Q .normal A S else Q (.exit i) A S := rfl
theorem roundQ_normal (I : Nat → Act' → St → Prop) (k : Nat) (Q : Out → Act' → St → Prop) (A : Act') (S : St) : roundQ I k Q .normal A S = ∃ k', k' < k ∧ I k' A S := rfl
theorem roundQ_ret (I : Nat → Act' → St → Prop) (k : Nat) (Q : Out → Act' → St → Prop) (A : Act') (S : St) : roundQ I k Q .ret A S = Q .ret A S := rfl
theorem roundQ_exit (I : Nat → Act' → St → Prop) (k i : Nat) (Q : Out → Act' → St → Prop) (A : Act') (S : St) : roundQ I k Q (.exit i) A S = Q (.exit i) A S := rfl
theorem retQ_ret (res : List RV) (Q : AV → St → Prop) (A : Act') (S : St) : retQ res Q .ret A S = onSome (results res A.F S.h) fun vs => Q (oneOf vs) S := rfl
theorem results_nil (F : Fr) (h : T AB) : results [] F h = some [] := rfl
theorem results_t (i : Nat) (rs : List RV) (F : Fr) (h : T AB) : results (.t i :: rs) F h = osel (results rs F h) fun vs => some (tmpV i F :: vs) := rfl
theorem oneOf_one (v : AV) : oneOf [v] = v := rfl
theorem oneOf_two (v u : AV) (vs : List AV) : oneOf (v :: u :: vs) = .tup (v :: u :: vs) := rfl
theorem argsIn_nil (i : Nat) (F : Fr) : argsIn [] i F = F := rfl
theorem argsIn_cons (v : AV) (vs : List AV) (i : Nat) (F : Fr) : argsIn (v :: vs) i F = argsIn vs (i + 1) (putF (some i) F v) := rfl
theorem qPick_bool (t : Bool) (a b : Opd) (F : Fr) : qPickB (.bool t) a b F = some (bsel t (a.val F) (b.val F)) := rfl
theorem isLoad_mv (x : Opd) : isLoad (.mv x) = false := rfl
theorem isLoad_bin (op : BinOp) (e : EqT) (x y : Opd) : isLoad (.bin op e x y) = false := rfl
theorem isLoad_iaddr (k : IxK) (x y : Opd) : isLoad (.iaddr k x y) = false := rfl
theorem isLoad_ld (g : Bool) (n : Nat) (x : Opd) : isLoad (.ld g n x) = true := rfl
theorem isLoad_lenSl (x : Opd) : isLoad (.lenSl x) = false := rfl
theorem isLoad_int (k : IntKind) (x : Opd) : isLoad (.conv (.int k) x) = false := rfl
theorem loadsOk_nil (h0 : T AB) (hs : List (Nat × Nat × T AB)) : loadsOk h0 hs [] = true := rfl
theorem loadsOk_cons (h0 : T AB) (hs : List (Nat × Nat × T AB)) (l : Loaded) (ls : List Loaded) : loadsOk h0 hs (l :: ls) = bsel (loadGo l hs h0) (loadsOk h0 hs ls) false := rfl
theorem loadGo_nil (l : Loaded) (h : T AB) : loadGo l [] h = sameO l.v (evQ l.q l.F h) := rfl
theorem sameO_some (v w : AV) : sameO v (some w) = sameV w v := rfl
theorem flush_nil (m : Nat) (h : T AB) : flush m [] h = ([], h) := rfl

attribute [simp] onSome_some wpo_qE wpo_aE wpo_onE wpo_offE wpo_nil wpd_nil wpd_qE wpd_aE isB_bool thenQ_normal thenQ_ret thenQ_exit blockQ_normal blockQ_ret blockQ_exit roundQ_normal roundQ_ret roundQ_exit retQ_ret results_nil results_t
  oneOf_one oneOf_two argsIn_nil argsIn_cons qPick_bool osel_some osel_none bsel_true bsel_false evQ_mv evQ_bin evQ_un evQ_lenSl evQ_iaddr evQ_ld evQ_conv evQ_extract evQ_pick evQ_fld val_t val_c tmpV_putF putF_none
  bin_add bin_sub bin_mul bin_lss bin_leq bin_gtr bin_geq bin_eql bin_neq conv_int
  isLoad_mv isLoad_bin isLoad_iaddr isLoad_ld isLoad_lenSl isLoad_int loadsOk_nil loadsOk_cons loadGo_nil sameO_some same_int same_bool same_ptr same_sl same_nilsl flush_nil

/-! ## Wraps -/
theorem wrap_i64 {n : Int} (h1 : -9223372036854775808 ≤ n) (h2 : n ≤ 9223372036854775807) : IntKind.i64.wrap n = n := wrap_id (by simp [IntKind.min, IntKind.signed, IntKind.bits]; omega) (by simp [IntKind.max, IntKind.signed, IntKind.bits]; omega)
/-! ## Limbs -/
def LimbIs (S : St) (v : AV) (l : List Nat) : Prop := IsSl .u32 S v (l.map Int.ofNat)
def NatIs (S : St) (v : AV) (n : Nat) : Prop := ∃ l, LimbIs S v l ∧ Norm l ∧ val l = n

theorem LimbIs.len {S : St} {v : AV} {l : List Nat} (h : LimbIs S v l) : lenSlV v = some (.int .i64 (l.length : Int)) := by
  have := IsSl.len h
  rw [List.length_map] at this
  exact this
theorem LimbIs.iaddr {S : St} {v : AV} {l : List Nat} (h : LimbIs S v l) {i : Nat} (hi : i < l.length) : iaddrV (.slice 1) v i = some (elemP v i) := IsSl.iaddr h (by simpa using hi)
theorem LimbIs.ld {S : St} {v : AV} {l : List Nat} (h : LimbIs S v l) {i : Nat} (hi : i < l.length) : qLdV (elemP v i) false 1 S.h = some (.int .u32 ((l.getD i 0 : Nat) : Int)) := by
  have := IsSl.ld h (i := i) (by simpa using hi)
  rw [this]
  simp [List.getD_eq_getElem?_getD, hi]
theorem LimbIs.same {S S' : St} {v : AV} {l : List Nat} (h : LimbIs S v l) (hs : Same S S') : LimbIs S' v l := IsSl.same h hs
theorem NatIs.same {S S' : St} {v : AV} {n : Nat} (h : NatIs S v n) (hs : Same S S') : NatIs S' v n := by
  obtain ⟨l, h1, h2, h3⟩ := h
  exact ⟨l, h1.same hs, h2, h3⟩
/-- a slice's head -/
def slHead (v : AV) (i : Nat) : AV :=
  match v with
  | .sl b off _ cap o => .sl b off i cap o
  | v => v
theorem LimbIs.slc {S : St} {v : AV} {l : List Nat} (h : LimbIs S v l) {i : Nat} (hi : i < l.length) {F : Fr} {x : Opd} (hx : natOf (x.val F) = some i) : slcV (.slice 1) v none (some x) none F = some (slHead v i) := by
  rcases h with ⟨h0, _⟩ | ⟨b, off, cap, o, cs, rfl, hc, hb, hcs, hel⟩
  · simp at h0; subst h0; simp at hi
  · rw [List.length_map] at hc
    have e1 : Nat.ble cap cap = true := Nat.ble_eq_true_of_le (Nat.le_refl _)
    have e2 : Nat.ble i cap = true := Nat.ble_eq_true_of_le (by omega)
    have e3 : Nat.ble 0 i = true := Nat.ble_eq_true_of_le (Nat.zero_le _)
    have e4 : Nat.beq cap 0 = false := by rw [Bool.eq_false_iff]; intro h; rw [Nat.beq_eq] at h; omega
    simp only [slcV, slSl, bounds, optNat, osel_some, hx, e1, e2, e3, bsel_true, e4, bsel_false, Nat.sub_zero, Nat.zero_mul, Nat.add_zero, Option.isNone_none]
    cases o <;> rfl
theorem LimbIs.head {S : St} {v : AV} {l : List Nat} (h : LimbIs S v l) {i : Nat} (hi : i < l.length) : LimbIs S (slHead v i) (l.take i) := by
  rcases h with ⟨h0, _⟩ | ⟨b, off, cap, o, cs, rfl, hc, hb, hcs, hel⟩
  · simp at h0; subst h0; simp at hi
  · rw [List.length_map] at hc
    refine .inr ⟨b, off, cap, o, cs, ?_, ?_, hb, hcs, ?_⟩
    · simp only [slHead]
      rw [List.length_map, List.length_take, Nat.min_eq_left (by omega)]
    · simp; omega
    · intro j y hj
      refine hel j y ?_
      rw [List.map_take, List.getElem?_take] at hj
      split at hj
      · exact hj
      · cases hj
theorem valsOf_nil (F : Fr) : valsOf [] F = [] := rfl
theorem valsOf_cons (x : Opd) (l : List Opd) (F : Fr) : valsOf (x :: l) F = x.val F :: valsOf l F := rfl
theorem evX_st (n : Nat) (x v : Opd) (call : CallF) (F : Fr) (S : St) : evX (.st n x v) call F S = osel (v.val F).cells fun cs => xStV (x.val F) n cs S := rfl
theorem cells_int (k : IntKind) (n : Int) : (AV.int k n).cells = some [.int k n] := rfl
attribute [simp] valsOf_nil valsOf_cons evX_st cells_int
theorem evQ_slc (k : SlK) (x : Opd) (lo hi mx : Option Opd) (F : Fr) (h : T AB) : evQ (.slc k x lo hi mx) F h = slcV k (x.val F) lo hi mx F := rfl
theorem natOf_nonneg (k : IntKind) {z : Int} (h : 0 ≤ z) : natOf (.int k z) = some z.toNat := by
  obtain ⟨n, rfl⟩ := Int.eq_ofNat_of_zero_le h
  rfl
attribute [simp] evQ_slc natOf_nonneg
end Go.Ev.Gl

/- Plain arithmetic for division by limbs (Knuth's estimate of a digit). -/
namespace Go.Ev.Gl

end Go.Ev.Gl

/- Plain arithmetic: trailing zeros, the greatest common divisor by halving. -/
namespace Go.Ev.Gl

/-- x has k zeros at its end -/
def Tz (x k : Nat) : Prop := ∃ m, x = 2 ^ k * (2 * m + 1)

theorem Tz.pos {x k : Nat} (h : Tz x k) : 0 < x := by
  obtain ⟨m, rfl⟩ := h
  exact Nat.mul_pos (Nat.pow_pos (by decide)) (by omega)

theorem Tz.lt {x k n : Nat} (h : Tz x k) (hx : x < 2 ^ n) : k < n := by
  obtain ⟨m, rfl⟩ := h
  rcases Nat.lt_or_ge k n with h | h
  · exact h
  · have h1 : 2 ^ n ≤ 2 ^ k := Nat.pow_le_pow_right (by decide) h
    have h2 : 2 ^ k * 1 ≤ 2 ^ k * (2 * m + 1) := Nat.mul_le_mul_left _ (by omega)
    omega

end Go.Ev.Gl

/- Plain arithmetic: Lehmer's steps of Euclid's algorithm. -/
namespace Go.Ev.Gl

theorem leh_exact {A C f g p e w x y z q r1 r2 tens d : Int} (hw : 0 ≤ w) (hx : x ≤ 0) (hy : y ≤ 0) (hz : 0 ≤ z) (hf : 0 ≤ f) (hfd : f < d) (hg : 0 ≤ g) (hgd : g < d)
    (hA : tens * A = p * d + (w * f + x * g)) (hC : tens * C = e * d + (y * f + z * g)) (h1 : p + w = q * (e + y) + r1) (h1l : r1 < e + y) (h2 : p + x = q * (e + z) + r2) (h2n : 0 ≤ r2) (hq : 0 ≤ q) (ht : 0 < tens) :
    q * C ≤ A ∧ A < (q + 1) * C := by
  have hd : 0 ≤ d := by omega
  have a1 : 0 ≤ w * f := Int.mul_nonneg hw hf
  have a2 : w * f ≤ w * d := Int.mul_le_mul_of_nonneg_left (by omega) hw
  have a3 : 0 ≤ (-x) * g := Int.mul_nonneg (by omega) hg
  have a4 : (-x) * g ≤ (-x) * d := Int.mul_le_mul_of_nonneg_left (by omega) (by omega)
  have a5 : 0 ≤ z * g := Int.mul_nonneg hz hg
  have a6 : z * g ≤ z * d := Int.mul_le_mul_of_nonneg_left (by omega) hz
  have a7 : 0 ≤ (-y) * f := Int.mul_nonneg (by omega) hf
  have a8 : (-y) * f ≤ (-y) * d := Int.mul_le_mul_of_nonneg_left (by omega) (by omega)
  rw [Int.neg_mul] at a3 a4 a7 a8
  rw [Int.neg_mul] at a4 a8
  constructor
  · have b1 : tens * C ≤ (e + z) * d := by rw [Int.add_mul]; omega
    have b2 : q * (tens * C) ≤ q * ((e + z) * d) := Int.mul_le_mul_of_nonneg_left b1 hq
    have b3 : (p + x) * d ≤ tens * A := by rw [Int.add_mul]; omega
    have b4 : 0 ≤ r2 * d := Int.mul_nonneg h2n hd
    have b5 : (p + x) * d = q * ((e + z) * d) + r2 * d := by rw [h2, Int.add_mul, Int.mul_assoc]
    have b6 : tens * (q * C) ≤ tens * A := by
      have : tens * (q * C) = q * (tens * C) := by grind
      omega
    exact Int.le_of_mul_le_mul_left b6 ht
  · have b1 : (e + y) * d ≤ tens * C := by rw [Int.add_mul]; omega
    have b2 : (q + 1) * ((e + y) * d) ≤ (q + 1) * (tens * C) := Int.mul_le_mul_of_nonneg_left b1 (by omega)
    have b3 : tens * A ≤ (p + w) * d := by rw [Int.add_mul]; omega
    have b4 : (p + w + 1) * d ≤ ((q + 1) * (e + y)) * d := by
      apply Int.mul_le_mul_of_nonneg_right _ hd
      rw [h1, Int.add_mul q 1]
      omega
    rw [Int.add_mul (p + w) 1, Int.mul_assoc (q + 1)] at b4
    have b6 : tens * A < tens * ((q + 1) * C) := by
      have : tens * ((q + 1) * C) = (q + 1) * (tens * C) := by grind
      omega
    exact Int.lt_of_mul_lt_mul_left b6 (by omega)

/-- no product of a step is too long -/
theorem leh_small {p e x y z q r2 M : Int} (hy : y ≤ 0) (hz : 0 ≤ z) (hpx : p + x ≤ M) (hey : 0 < e + y) (h2 : p + x = q * (e + z) + r2) (h2n : 0 ≤ r2) (hq : 0 ≤ q) :
    0 ≤ q * e ∧ q * e ≤ M ∧ -M ≤ q * y ∧ q * y ≤ 0 ∧ 0 ≤ q * z ∧ q * z ≤ M := by
  have b1 : q * (e + z) ≤ M := by omega
  have a1 : 0 ≤ q * e := Int.mul_nonneg hq (by omega)
  have a2 : 0 ≤ q * z := Int.mul_nonneg hq hz
  have a3 : 0 ≤ q * (-y) := Int.mul_nonneg hq (by omega)
  have a4 : 0 ≤ q * (e + y) := Int.mul_nonneg hq (by omega)
  rw [Int.mul_add] at b1 a4
  rw [Int.mul_neg] at a3
  omega

/-- a b: the numbers; P E: their first digits, f g: what is behind them; p e: the digits now; w x y z: the factors, with signs that alternate -/
structure Leh (a b P E p e w x y z : Int) : Prop where
  signs : (0 ≤ w ∧ x ≤ 0 ∧ y ≤ 0 ∧ 0 ≤ z) ∨ (w ≤ 0 ∧ 0 ≤ x ∧ 0 ≤ y ∧ z ≤ 0)
  det : w * z - x * y = 1 ∨ w * z - x * y = -1
  hp : p = w * P + x * E
  he : e = y * P + z * E
  pw : 0 ≤ p + w ∧ p + w ≤ 1000000000000000000
  px : 0 ≤ p + x ∧ p + x ≤ 1000000000000000000
  ey : 0 ≤ e + y ∧ e + y ≤ 1000000000000000000
  ez : 0 ≤ e + z ∧ e + z ≤ 1000000000000000000
  size : -1000000000 < w ∧ w < 1000000000 ∧ -1000000000 < x ∧ x < 1000000000 ∧ -1000000000 < y ∧ y < 1000000000 ∧ -1000000000 < z ∧ z < 1000000000
  low : 0 ≤ y * a + z * b
  made : (w = 1 ∧ x = 0 ∧ y = 0 ∧ z = 1) ∨ (y * a + z * b < w * a + x * b ∧ w * a + x * b ≤ b)

theorem Leh.step {a b P E p e w x y z f g tens d q : Int} (h : Leh a b P E p e w x y z) (hab : b ≤ a) (ht : 0 < tens) (hf : 0 ≤ f) (hfd : f < d) (hg : 0 ≤ g) (hgd : g < d) (ha : tens * a = P * d + f) (hb : tens * b = E * d + g)
    (h1 : e + y ≠ 0) (h2 : e + z ≠ 0) (hq1 : q = (p + w) / (e + y)) (hq2 : q = (p + x) / (e + z)) :
    (0 ≤ q * e ∧ q * e ≤ 1000000000000000000 ∧ -1000000000000000000 ≤ q * y ∧ q * y ≤ 1000000000000000000 ∧ -1000000000000000000 ≤ q * z ∧ q * z ≤ 1000000000000000000) ∧
    (-1000000000 < w - q * y → w - q * y < 1000000000 → -1000000000 < x - q * z → x - q * z < 1000000000 → Leh a b P E e (p - q * e) y z (w - q * y) (x - q * z) ∧ (w - q * y) * a + (x - q * z) * b < y * a + z * b) := by
  have hey := h.ey
  have hez := h.ez
  have hpw := h.pw
  have hpx := h.px
  have p1 : 0 < e + y := by omega
  have p2 : 0 < e + z := by omega
  have hq : 0 ≤ q := by rw [hq1]; exact Int.ediv_nonneg hpw.1 hey.1
  have e1 := Int.mul_ediv_add_emod (p + w) (e + y)
  have e2 := Int.mul_ediv_add_emod (p + x) (e + z)
  have m1 := Int.emod_nonneg (p + w) h1
  have m2 := Int.emod_nonneg (p + x) h2
  have l1 := Int.emod_lt_of_pos (p + w) p1
  have l2 := Int.emod_lt_of_pos (p + x) p2
  rw [← hq1] at e1
  rw [← hq2] at e2
  generalize (p + w) % (e + y) = r1 at *
  generalize (p + x) % (e + z) = r2 at *
  have e1 : p + w = q * (e + y) + r1 := by rw [Int.mul_comm]; omega
  have e2 : p + x = q * (e + z) + r2 := by rw [Int.mul_comm]; omega
  have hA : tens * (w * a + x * b) = p * d + (w * f + x * g) := by
    have : tens * (w * a + x * b) = w * (tens * a) + x * (tens * b) := by grind
    rw [this, ha, hb, h.hp]; grind
  have hC : tens * (y * a + z * b) = e * d + (y * f + z * g) := by
    have : tens * (y * a + z * b) = y * (tens * a) + z * (tens * b) := by grind
    rw [this, ha, hb, h.he]; grind
  have hex : q * (y * a + z * b) ≤ w * a + x * b ∧ w * a + x * b < (q + 1) * (y * a + z * b) := by
    rcases h.signs with ⟨s1, s2, s3, s4⟩ | ⟨s1, s2, s3, s4⟩
    · exact leh_exact s1 s2 s3 s4 hf hfd hg hgd hA hC e1 l1 e2 m2 hq ht
    · exact leh_exact s2 s1 s4 s3 hg hgd hf hfd (by rw [hA]; omega) (by rw [hC]; omega) e2 l2 e1 m1 hq ht
  refine ⟨?_, ?_⟩
  · rcases h.signs with ⟨s1, s2, s3, s4⟩ | ⟨s1, s2, s3, s4⟩
    · have := leh_small s3 s4 hpx.2 p1 e2 m2 hq
      omega
    · have := leh_small s4 s3 hpw.2 p2 e1 m1 hq
      omega
  · intro z1 z2 z3 z4
    have eB : (w - q * y) * a + (x - q * z) * b = (w * a + x * b) - q * (y * a + z * b) := by grind
    have hlow := h.low
    rw [Int.add_mul] at hex
    refine ⟨⟨?_, ?_, h.he, ?_, hey, hez, ?_, ?_, ?_, ?_, .inr ?_⟩, by omega⟩
    · rcases h.signs with ⟨s1, s2, s3, s4⟩ | ⟨s1, s2, s3, s4⟩
      · have a1 := Int.mul_nonneg hq (show 0 ≤ -y by omega)
        have a2 := Int.mul_nonneg hq s4
        rw [Int.mul_neg] at a1
        exact .inr (by omega)
      · have a1 := Int.mul_nonneg hq (show 0 ≤ -z by omega)
        have a2 := Int.mul_nonneg hq s3
        rw [Int.mul_neg] at a1
        exact .inl (by omega)
    · have : y * (x - q * z) - z * (w - q * y) = -(w * z - x * y) := by grind
      rw [this]
      rcases h.det with h | h <;> rw [h]
      · exact .inr rfl
      · exact .inl rfl
    · rw [h.hp, h.he]; grind
    · have : p - q * e + (w - q * y) = r1 := by rw [Int.mul_add] at e1; omega
      rw [this]; omega
    · have : p - q * e + (x - q * z) = r2 := by rw [Int.mul_add] at e2; omega
      rw [this]; omega
    · have := h.size
      omega
    · omega
    · rcases h.made with ⟨rfl, rfl, rfl, rfl⟩ | ⟨k1, k2⟩
      · omega
      · omega

end Go.Ev.Gl

/- Plain arithmetic: the first digits of a number. -/
namespace Go.Ev.Gl
end Go.Ev.Gl

/- Plain arithmetic: rational numbers in lowest terms (the core library's Rat). -/
namespace Go.Ev.Gl

/-- a number with a sign -/
def sg (neg : Bool) (n : Nat) : Int := if neg then -(n : Int) else n
theorem sg_natAbs (neg : Bool) (n : Nat) : (sg neg n).natAbs = n := by cases neg <;> simp [sg]
theorem rat_mk {n : Int} {d : Nat} (hd : d ≠ 0) (hc : n.natAbs.Coprime d) : (mkRat n d).num = n ∧ (mkRat n d).den = d := by
  rw [← Rat.mk_eq_mkRat n d hd hc]
  exact ⟨rfl, rfl⟩

end Go.Ev.Gl
