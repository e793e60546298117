/- Natural numbers in limbs, rational numbers in lowest terms: plain facts; rules as equations. -/
import Derived.Test.YtlnjemhkijkaoaaEv8
set_option maxHeartbeats 4000000
set_option linter.unusedSimpArgs false
set_option linter.unusedVariables false
/- Natural numbers in limbs of base 10^9, lowest limb first: plain facts, no program in sight. -/
namespace Go.Ev.Gl

end Go.Ev.Gl

namespace Go.Ev.Gl
variable {fns : T AFn}

/-! ## The rules, ready for 'simp' -/
theorem isB_bool (a b : Bool) : isB (.bool a) b = (a == b) := by cases a <;> cases b <;> rfl
theorem wpo_gE {d : Option Nat} {op : AOp} {s : Nat} {b : Bool} {m : Nat} {l : List AO} {F : Fr} {S : St} {Q : Fr → St → Prop} : wpo fns (⟨d, op, some (s, b), m⟩ :: l) F S Q ↔ if isB (tmpV s F) b = true then wpo fns (⟨d, op, none, m⟩ :: l) F S Q else wpo fns l (putF d F .undef) S Q := by
  have e : ∀ call, evOp ⟨d, op, some (s, b), m⟩ call F S = bsel (isB (tmpV s F) b) (evOp ⟨d, op, none, m⟩ call F S) (some (putF d F .undef, S)) := fun call => by
    cases op <;> rfl
  constructor
  · rintro ⟨n, F', S', h1, h2⟩
    rw [evOps_cons, e] at h1
    cases hb : isB (tmpV s F) b with
    | true =>
      rw [hb, bsel_true] at h1
      rw [if_pos rfl]
      exact ⟨n, F', S', by rw [evOps_cons]; exact h1, h2⟩
    | false =>
      rw [hb, bsel_false, osel_some] at h1
      rw [if_neg (by simp)]
      exact ⟨n, F', S', h1, h2⟩
  · intro h
    cases hb : isB (tmpV s F) b with
    | true =>
      rw [hb, if_pos rfl] at h
      obtain ⟨n, F', S', h1, h2⟩ := h
      refine ⟨n, F', S', ?_, h2⟩
      rw [evOps_cons, e, hb, bsel_true, ← evOps_cons]
      exact h1
    | false =>
      rw [hb, if_neg (by simp)] at h
      obtain ⟨n, F', S', h1, h2⟩ := h
      refine ⟨n, F', S', ?_, h2⟩
      rw [evOps_cons, e, hb, bsel_false, osel_some]
      exact h1

theorem wpo_onE {d : Option Nat} {op : AOp} {s : Nat} {b : Bool} {m : Nat} {l : List AO} {F : Fr} {S : St} {Q : Fr → St → Prop} (hg : tmpV s F = .bool b) : wpo fns (⟨d, op, some (s, b), m⟩ :: l) F S Q ↔ wpo fns (⟨d, op, none, m⟩ :: l) F S Q := by
  rw [wpo_gE, hg, isB_bool, if_pos (by simp)]
theorem wpo_offE {d : Option Nat} {op : AOp} {s : Nat} {b : Bool} {m : Nat} {l : List AO} {F : Fr} {S : St} {Q : Fr → St → Prop} (hg : tmpV s F = .bool (!b)) : wpo fns (⟨d, op, some (s, b), m⟩ :: l) F S Q ↔ wpo fns l (putF d F .undef) S Q := by
  rw [wpo_gE, hg, isB_bool, if_neg (by cases b <;> simp)]
theorem wpc_yes {c : Opd} {x y : AC} {A : Act'} {S : St} {Q : Out → Act' → St → Prop} (hc : c.val A.F = .bool true) (h : wpc fns x A S Q) : wpc fns (.cond c x y) A S Q := wpc_if hc (fun _ => h) (fun h => by cases h)
theorem wpc_non {c : Opd} {x y : AC} {A : Act'} {S : St} {Q : Out → Act' → St → Prop} (hc : c.val A.F = .bool false) (h : wpc fns y A S Q) : wpc fns (.cond c x y) A S Q := wpc_if hc (fun h => by cases h) (fun _ => h)
theorem wsr {ops : List AO} {y : AC} {A : Act'} {S : St} {Q : Out → Act' → St → Prop} (h : wpo fns ops A.F S fun F' S' => thenQ fns y Q .normal ⟨F', A.inr⟩ S') : wpc fns (.seq (.reg ops) y) A S Q := wpc_seq (wpc_reg h)
theorem wss {ops : List AO} {y z : AC} {A : Act'} {S : St} {Q : Out → Act' → St → Prop} (h : wpo fns ops A.F S fun F' S' => thenQ fns y (thenQ fns z Q) .normal ⟨F', A.inr⟩ S') : wpc fns (.seq (.seq (.reg ops) y) z) A S Q := wpc_seq (wpc_seq (wpc_reg h))
theorem thenQ_normal (y : AC) (Q : Out → Act' → St → Prop) (A : Act') (S : St) : thenQ fns y Q .normal A S = wpc fns y A S Q := rfl
theorem thenQ_ret (y : AC) (Q : Out → Act' → St → Prop) (A : Act') (S : St) : thenQ fns y Q .ret A S = Q .ret A S := rfl
theorem thenQ_exit (y : AC) (Q : Out → Act' → St → Prop) (A : Act') (S : St) (i : Nat) : thenQ fns y Q (.exit i) A S = Q (.exit i) A S := rfl
theorem blockQ_normal (id : Nat) (Q : Out → Act' → St → Prop) (A : Act') (S : St) : blockQ id Q .normal A S = Q .normal A S := rfl
theorem blockQ_ret (id : Nat) (Q : Out → Act' → St → Prop) (A : Act') (S : St) : blockQ id Q .ret A S = Q .ret A S := rfl
theorem blockQ_exit (id i : Nat) (Q : Out → Act' → St → Prop) (A : Act') (S : St) : blockQ id Q (.exit i) A S = if i = id then Q .normal A S else Q (.exit i) A S := rfl
theorem roundQ_normal (I : Nat → Act' → St → Prop) (k : Nat) (Q : Out → Act' → St → Prop) (A : Act') (S : St) : roundQ I k Q .normal A S = ∃ k', k' < k ∧ I k' A S := rfl
theorem roundQ_ret (I : Nat → Act' → St → Prop) (k : Nat) (Q : Out → Act' → St → Prop) (A : Act') (S : St) : roundQ I k Q .ret A S = Q .ret A S := rfl
theorem roundQ_exit (I : Nat → Act' → St → Prop) (k i : Nat) (Q : Out → Act' → St → Prop) (A : Act') (S : St) : roundQ I k Q (.exit i) A S = Q (.exit i) A S := rfl
theorem retQ_ret (res : List RV) (Q : AV → St → Prop) (A : Act') (S : St) : retQ res Q .ret A S = onSome (results res A.F S.h) fun vs => Q (oneOf vs) S := rfl
theorem results_nil (F : Fr) (h : T AB) : results [] F h = some [] := rfl
theorem results_t (i : Nat) (rs : List RV) (F : Fr) (h : T AB) : results (.t i :: rs) F h = osel (results rs F h) fun vs => some (tmpV i F :: vs) := rfl
theorem oneOf_one (v : AV) : oneOf [v] = v := rfl
theorem oneOf_two (v u : AV) (vs : List AV) : oneOf (v :: u :: vs) = .tup (v :: u :: vs) := rfl
theorem argsIn_nil (i : Nat) (F : Fr) : argsIn [] i F = F := rfl
theorem argsIn_cons (v : AV) (vs : List AV) (i : Nat) (F : Fr) : argsIn (v :: vs) i F = argsIn vs (i + 1) (putF (some i) F v) := rfl
theorem qPick_bool (t : Bool) (a b : Opd) (F : Fr) : qPickB (.bool t) a b F = some (bsel t (a.val F) (b.val F)) := rfl
theorem isLoad_mv (x : Opd) : isLoad (.mv x) = false := rfl
theorem isLoad_bin (op : BinOp) (e : EqT) (x y : Opd) : isLoad (.bin op e x y) = false := rfl
theorem isLoad_iaddr (k : IxK) (x y : Opd) : isLoad (.iaddr k x y) = false := rfl
theorem isLoad_ld (g : Bool) (n : Nat) (x : Opd) : isLoad (.ld g n x) = true := rfl
theorem isLoad_lenSl (x : Opd) : isLoad (.lenSl x) = false := rfl
theorem isLoad_int (k : IntKind) (x : Opd) : isLoad (.conv (.int k) x) = false := rfl
theorem loadsOk_nil (h0 : T AB) (hs : List (Nat × Nat × T AB)) : loadsOk h0 hs [] = true := rfl
theorem loadsOk_cons (h0 : T AB) (hs : List (Nat × Nat × T AB)) (l : Loaded) (ls : List Loaded) : loadsOk h0 hs (l :: ls) = bsel (loadGo l hs h0) (loadsOk h0 hs ls) false := rfl
theorem loadGo_nil (l : Loaded) (h : T AB) : loadGo l [] h = sameO l.v (evQ l.q l.F h) := rfl
theorem sameO_some (v w : AV) : sameO v (some w) = sameV w v := rfl
theorem flush_nil (m : Nat) (h : T AB) : flush m [] h = ([], h) := rfl

attribute [simp] onSome_some wpo_qE wpo_aE wpo_onE wpo_offE wpo_nil wpd_nil wpd_qE wpd_aE isB_bool thenQ_normal thenQ_ret thenQ_exit blockQ_normal blockQ_ret blockQ_exit roundQ_normal roundQ_ret roundQ_exit retQ_ret results_nil results_t
  oneOf_one oneOf_two argsIn_nil argsIn_cons qPick_bool osel_some osel_none bsel_true bsel_false evQ_mv evQ_bin evQ_un evQ_lenSl evQ_iaddr evQ_ld evQ_conv evQ_extract evQ_pick evQ_fld val_t val_c tmpV_putF putF_none
  bin_add bin_sub bin_mul bin_lss bin_leq bin_gtr bin_geq bin_eql bin_neq conv_int
  isLoad_mv isLoad_bin isLoad_iaddr isLoad_ld isLoad_lenSl isLoad_int loadsOk_nil loadsOk_cons loadGo_nil sameO_some same_int same_bool same_ptr same_sl same_nilsl flush_nil

/-! ## Wraps -/
theorem wrap_i64 {n : Int} (h1 : -9223372036854775808 ≤ n) (h2 : n ≤ 9223372036854775807) : IntKind.i64.wrap n = n := wrap_id (by simp [IntKind.min, IntKind.signed, IntKind.bits]; omega) (by simp [IntKind.max, IntKind.signed, IntKind.bits]; omega)
theorem wrap_u64 {n : Int} (h1 : 0 ≤ n) (h2 : n ≤ 18446744073709551615) : IntKind.u64.wrap n = n := wrap_id (by simp [IntKind.min, IntKind.signed]; omega) (by simp [IntKind.max, IntKind.signed, IntKind.bits]; omega)
/-! ## Limbs -/
theorem valsOf_nil (F : Fr) : valsOf [] F = [] := rfl
theorem valsOf_cons (x : Opd) (l : List Opd) (F : Fr) : valsOf (x :: l) F = x.val F :: valsOf l F := rfl
theorem evX_st (n : Nat) (x v : Opd) (call : CallF) (F : Fr) (S : St) : evX (.st n x v) call F S = osel (v.val F).cells fun cs => xStV (x.val F) n cs S := rfl
theorem cells_int (k : IntKind) (n : Int) : (AV.int k n).cells = some [.int k n] := rfl
attribute [simp] valsOf_nil valsOf_cons evX_st cells_int
theorem evQ_slc (k : SlK) (x : Opd) (lo hi mx : Option Opd) (F : Fr) (h : T AB) : evQ (.slc k x lo hi mx) F h = slcV k (x.val F) lo hi mx F := rfl
theorem natOf_nonneg (k : IntKind) {z : Int} (h : 0 ≤ z) : natOf (.int k z) = some z.toNat := by
  obtain ⟨n, rfl⟩ := Int.eq_ofNat_of_zero_le h
  rfl
attribute [simp] evQ_slc natOf_nonneg
end Go.Ev.Gl

/- Plain arithmetic for division by limbs (Knuth's estimate of a digit). -/
namespace Go.Ev.Gl

end Go.Ev.Gl

/- Plain arithmetic: trailing zeros, the greatest common divisor by halving. -/
namespace Go.Ev.Gl

end Go.Ev.Gl

/- Plain arithmetic: Lehmer's steps of Euclid's algorithm. -/
namespace Go.Ev.Gl

end Go.Ev.Gl

/- Plain arithmetic: the first digits of a number. -/
namespace Go.Ev.Gl
end Go.Ev.Gl

/- Plain arithmetic: rational numbers in lowest terms (the core library's Rat). -/
namespace Go.Ev.Gl

end Go.Ev.Gl
