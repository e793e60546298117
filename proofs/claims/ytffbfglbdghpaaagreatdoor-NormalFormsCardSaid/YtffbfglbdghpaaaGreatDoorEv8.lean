/- Big steps over the evaluator: rules for code, calls and regions; what lies beyond the last block; calls that are known by their runs; arguments that are only read. -/
import Derived.Test.YtffbfglbdghpaaaGreatDoorEv7
import Derived.ChangeSlices
import Derived.ChangeArms
import Derived.DataReads
namespace Go.Ev

/-! ## More fuel gives the same -/
def CallLe (c d : CallF) : Prop := ∀ f args S r, c f args S = some r → d f args S = some r
structure Le (a b : Evs) : Prop where
  code : ∀ c A S r, a.code c A S = some r → b.code c A S = some r
  call : CallLe a.call b.call

theorem osel_mono {α β : Type} {x y : Option α} {f g : α → Option β} {b : β} (h : osel x f = some b) (hx : ∀ a, x = some a → y = some a) (hf : ∀ a, f a = some b → g a = some b) : osel y g = some b := by
  obtain ⟨a, h1, h2⟩ := osel_eq_some h
  rw [hx a h1]
  exact hf a h2

theorem invV_mono {c d : CallF} (h : CallLe c d) {v : AV} {tbl : List (Nat × Nat × Option (Bool × Nat))} {args : List AV} {S : St} {r : AV × St} (hv : invV v tbl args c S = some r) : invV v tbl args d S = some r := by
  unfold invV at hv ⊢
  split at hv
  · refine osel_mono hv (fun _ h => h) fun a ha => ?_
    unfold invRow at ha ⊢
    split at ha
    · exact h _ _ _ _ ha
    · unfold invPtr at ha ⊢
      split at ha
      · exact osel_mono ha (fun _ h => h) fun _ hb => h _ _ _ _ hb
      · cases ha
  · cases hv

theorem evX_mono {c d : CallF} (h : CallLe c d) {x : XOp} {F : Fr} {S : St} {r : AV × St} (hv : evX x c F S = some r) : evX x d F S = some r := by
  cases x with
  | call f args => exact h _ _ _ _ hv
  | inv tbl recv args => exact invV_mono h hv
  | _ => exact hv

theorem evOp_mono {c d : CallF} (h : CallLe c d) {o : AO} {F : Fr} {S : St} {r : Fr × St} (hv : evOp o c F S = some r) : evOp o d F S = some r := by
  unfold evOp at hv ⊢
  rw [bsel_eq] at hv ⊢
  split at hv
  · rename_i hw
    rw [if_pos hw]
    cases ho : o.op with
    | q q => rw [ho] at hv; exact hv
    | a a => rw [ho] at hv; exact hv
    | x x =>
      rw [ho] at hv
      exact osel_mono (show osel (evX x c F S) _ = some r from hv) (fun _ hx => evX_mono h hx) fun _ hb => hb
  · rename_i hw
    rw [if_neg hw]
    exact hv

theorem evOps_mono {c d : CallF} (h : CallLe c d) : ∀ {l : List AO} {F : Fr} {S : St} {r : Fr × St}, evOps l c F S = some r → evOps l d F S = some r
  | [], F, S, r, hv => hv
  | o :: l, F, S, r, hv => osel_mono (show osel (evOp o c F S) (fun r => evOps l c r.1 r.2) = some r from hv) (fun _ hx => evOp_mono h hx) fun _ hb => evOps_mono h hb

theorem evD_mono {c d : CallF} (h : CallLe c d) {o : AO} {i base : Nat} {D : DS} {r : DS} (hv : evD o i base c D = some r) : evD o i base d D = some r := by
  unfold evD at hv ⊢
  rw [bsel_eq] at hv ⊢
  split at hv
  · rename_i hw
    rw [if_pos hw]
    cases ho : o.op with
    | q q => rw [ho] at hv; exact hv
    | a a => rw [ho] at hv; exact hv
    | x x =>
      rw [ho] at hv
      obtain ⟨h1, h2⟩ := bsel_some (show bsel (lastOk D.hs o.mask) _ none = some r from hv)
      show bsel (lastOk D.hs o.mask) _ none = some r
      rw [h1, bsel_true]
      exact osel_mono h2 (fun _ hx => evX_mono h hx) fun _ hb => hb
  · rename_i hw
    rw [if_neg hw]
    exact hv

theorem evDs_mono {c d : CallF} (h : CallLe c d) : ∀ {l : List AO} {i base : Nat} {D r : DS}, evDs l i base c D = some r → evDs l i base d D = some r
  | [], _, _, _, _, hv => hv
  | o :: l, i, base, D, r, hv => osel_mono (show osel (evD o i base c D) (fun D' => evDs l (i + 1) base c D') = some r from hv) (fun _ hx => evD_mono h hx) fun _ hb => evDs_mono h hb

theorem evDrawn_mono {c d : CallF} (h : CallLe c d) {l : List AO} {F : Fr} {S : St} {r : Fr × St} (hv : evDrawn l c F S = some r) : evDrawn l d F S = some r :=
  osel_mono (show osel _ _ = some r from hv) (fun _ hx => evDs_mono h hx) fun _ hb => hb

theorem evCode_mono {a b : Evs} (h : Le a b) {c : AC} {A : Act'} {S : St} {r : Out × Act' × St} (hv : evCode c a A S = some r) : evCode c b A S = some r := by
  cases c with
  | skip => exact hv
  | seq x y =>
    refine osel_mono (show osel (a.code x A S) (seqK y a) = some r from hv) (fun _ hx => h.code _ _ _ _ hx) fun q hq => ?_
    unfold seqK at hq ⊢
    split at hq
    · exact h.code _ _ _ _ hq
    · exact hq
  | cond x y z =>
    have hv : condK (x.val A.F) y z a A S = some r := hv
    show condK (x.val A.F) y z b A S = some r
    unfold condK at hv ⊢
    split at hv
    · exact h.code _ _ _ _ hv
    · cases hv
  | block id x => exact osel_mono (show osel (a.code x A S) (blockK id) = some r from hv) (fun _ hx => h.code _ _ _ _ hx) fun _ hq => hq
  | loop x =>
    refine osel_mono (show osel (a.code x A S) (seqK (.loop x) a) = some r from hv) (fun _ hx => h.code _ _ _ _ hx) fun q hq => ?_
    unfold seqK at hq ⊢
    split at hq
    · exact h.code _ _ _ _ hq
    · exact hq
  | exit id => exact hv
  | ret => exact hv
  | reg ops => exact osel_mono (show osel (evOps ops a.call A.F S) _ = some r from hv) (fun _ hx => evOps_mono h.call hx) fun _ hq => hq
  | drw ops => exact osel_mono (show osel (evDrawn ops a.call A.F S) _ = some r from hv) (fun _ hx => evDrawn_mono h.call hx) fun _ hq => hq
  | rng f ps as bd =>
    have hv : cRng f ps as bd a A S = some r := hv
    show cRng f ps as bd b A S = some r
    unfold cRng at hv ⊢
    cases hi : A.inr with
    | true => rw [hi, bsel_true] at hv; cases hv
    | false =>
      rw [hi, bsel_false] at hv
      rw [bsel_false]
      obtain ⟨h1, h2⟩ := bsel_some hv
      rw [h1, bsel_true]
      refine osel_mono h2 (fun _ hx => h.call _ _ _ _ hx) fun q hq => osel_mono hq (fun _ hx => hx) fun bl hbl => ?_
      unfold rngEnd at hbl ⊢
      split at hbl
      · split at hbl
        · cases hbl
        · exact osel_mono hbl (fun _ hx => hx) fun _ hc => h.code _ _ _ _ hc
      · cases hbl
  | dfr ops f args => exact hv

theorem roundB_mono {a b : Evs} (h : Le a b) {bl : AB} {l : Nat} {args : List AV} {S : St} {r : AV × St} (hv : roundB bl l args a S = some r) : roundB bl l args b S = some r := by
  unfold roundB at hv ⊢
  split at hv
  · refine osel_mono hv (fun _ hx => hx) fun F hF => osel_mono hF (fun _ hx => h.code _ _ _ _ hx) fun q hq => ?_
    unfold assignK at hq ⊢
    split at hq
    · refine osel_mono hq (fun _ hx => hx) fun bl hbl => ?_
      unfold beginRoundB at hbl ⊢
      split at hbl
      · exact osel_mono (show osel (a.code _ _ _) _ = some r from hbl) (fun _ hx => h.code _ _ _ _ hx) fun _ hq => hq
      · cases hbl
    · cases hq
  · cases hv

theorem evCall_mono {fns : T AFn} {a b : Evs} (h : Le a b) : CallLe (evCall fns a) (evCall fns b) := by
  intro f args S r hv
  unfold evCall at hv ⊢
  split at hv
  · refine osel_mono hv (fun _ hx => hx) fun fn hfn => ?_
    unfold callFn at hfn ⊢
    obtain ⟨h1, h2⟩ := bsel_some hfn
    rw [h1, bsel_true]
    exact osel_mono h2 (fun _ hx => h.code _ _ _ _ hx) fun _ hq => hq
  · exact osel_mono hv (fun _ hx => hx) fun bl hbl => roundB_mono h hbl
  · cases hv

theorem ev_le_succ (fns : T AFn) : ∀ n, Le (ev fns n) (ev fns (n + 1))
  | 0 => ⟨fun c A S r (h : none = some r) => (by cases h), fun f args S r (h : none = some r) => (by cases h)⟩
  | n + 1 => ⟨fun _ _ _ _ h => evCode_mono (ev_le_succ fns n) h, evCall_mono (ev_le_succ fns n)⟩

theorem ev_mono (fns : T AFn) {n m : Nat} (h : n ≤ m) : Le (ev fns n) (ev fns m) := by
  induction h with
  | refl => exact ⟨fun _ _ _ _ h => h, fun _ _ _ _ h => h⟩
  | step _ ih => exact ⟨fun c A S r h => (ev_le_succ fns _).code _ _ _ _ (ih.code _ _ _ _ h), fun f args S r h => (ev_le_succ fns _).call _ _ _ _ (ih.call _ _ _ _ h)⟩
end Go.Ev

namespace Go.Ev

/-! ## Short names of operations, for the functions as data -/
abbrev oq (d : Nat) (q : QOp) : AO := ⟨some d, .q q, none, 0⟩
abbrev om (d m : Nat) (q : QOp) : AO := ⟨some d, .q q, none, m⟩
abbrev og (d s : Nat) (b : Bool) (m : Nat) (q : QOp) : AO := ⟨some d, .q q, some (s, b), m⟩
abbrev oc (d f : Nat) (l : List Opd) (m : Nat) : AO := ⟨some d, .x (.call (.c (.fn f [] [])) l), none, m⟩
abbrev mt (d i : Nat) : AO := ⟨some d, .q (.mv (.t i)), none, 0⟩
abbrev ci (n : Int) : Opd := .c (.int .i64 n)
abbrev bi (o : BinOp) (x y : Opd) : QOp := .bin o (.p .int) x y
abbrev ld (i : Nat) : QOp := .ld false 1 (.t i)

/-! ## Big steps: what code does, with the fuel hidden -/
variable {fns : T AFn}

def wpc (fns : T AFn) (c : AC) (A : Act') (S : St) (Q : Out → Act' → St → Prop) : Prop := ∃ n o A' S', (ev fns n).code c A S = some (o, A', S') ∧ Q o A' S'
def wpf (fns : T AFn) (f : AV) (args : List AV) (S : St) (Q : AV → St → Prop) : Prop := ∃ n v S', (ev fns n).call f args S = some (v, S') ∧ Q v S'
def wpo (fns : T AFn) (ops : List AO) (F : Fr) (S : St) (Q : Fr → St → Prop) : Prop := ∃ n F' S', evOps ops (ev fns n).call F S = some (F', S') ∧ Q F' S'

theorem wpc_mono {c : AC} {A : Act'} {S : St} {Q R : Out → Act' → St → Prop} (h : wpc fns c A S Q) (hq : ∀ o A S, Q o A S → R o A S) : wpc fns c A S R := by
  obtain ⟨n, o, A', S', h1, h2⟩ := h
  exact ⟨n, o, A', S', h1, hq _ _ _ h2⟩
theorem wpf_mono {f : AV} {args : List AV} {S : St} {Q R : AV → St → Prop} (h : wpf fns f args S Q) (hq : ∀ v S, Q v S → R v S) : wpf fns f args S R := by
  obtain ⟨n, v, S', h1, h2⟩ := h
  exact ⟨n, v, S', h1, hq _ _ h2⟩
theorem wpo_mono {ops : List AO} {F : Fr} {S : St} {Q R : Fr → St → Prop} (h : wpo fns ops F S Q) (hq : ∀ F S, Q F S → R F S) : wpo fns ops F S R := by
  obtain ⟨n, F', S', h1, h2⟩ := h
  exact ⟨n, F', S', h1, hq _ _ h2⟩

theorem wpc_skip {A : Act'} {S : St} {Q : Out → Act' → St → Prop} (h : Q .normal A S) : wpc fns .skip A S Q := ⟨1, _, _, _, rfl, h⟩
theorem wpc_exit {id : Nat} {A : Act'} {S : St} {Q : Out → Act' → St → Prop} (h : Q (.exit id) A S) : wpc fns (.exit id) A S Q := ⟨1, _, _, _, rfl, h⟩
theorem wpc_ret {A : Act'} {S : St} {Q : Out → Act' → St → Prop} (h : Q .ret A S) : wpc fns .ret A S Q := ⟨1, _, _, _, rfl, h⟩

/-- what is asked behind the first of two -/
def thenQ (fns : T AFn) (y : AC) (Q : Out → Act' → St → Prop) : Out → Act' → St → Prop
  | .normal, A, S => wpc fns y A S Q
  | o, A, S => Q o A S

theorem wpc_seq {x y : AC} {A : Act'} {S : St} {Q : Out → Act' → St → Prop} (h : wpc fns x A S (thenQ fns y Q)) : wpc fns (.seq x y) A S Q := by
  obtain ⟨n, o, A1, S1, h1, h2⟩ := h
  cases o with
  | normal =>
    obtain ⟨m, o, A2, S2, h3, h4⟩ := h2
    refine ⟨max n m + 1, o, A2, S2, ?_, h4⟩
    show osel ((ev fns (max n m)).code x A S) (seqK y (ev fns (max n m))) = _
    rw [(ev_mono fns (Nat.le_max_left n m)).code _ _ _ _ h1, osel_some]
    exact (ev_mono fns (Nat.le_max_right n m)).code _ _ _ _ h3
  | ret =>
    refine ⟨n + 1, .ret, A1, S1, ?_, h2⟩
    show osel ((ev fns n).code x A S) (seqK y (ev fns n)) = _
    rw [h1]; rfl
  | exit i =>
    refine ⟨n + 1, .exit i, A1, S1, ?_, h2⟩
    show osel ((ev fns n).code x A S) (seqK y (ev fns n)) = _
    rw [h1]; rfl

theorem wpc_cond {c : Opd} {x y : AC} {A : Act'} {S : St} {Q : Out → Act' → St → Prop} {t : Bool} (hc : c.val A.F = .bool t) (h : wpc fns (bsel t x y) A S Q) : wpc fns (.cond c x y) A S Q := by
  obtain ⟨n, o, A1, S1, h1, h2⟩ := h
  refine ⟨n + 1, o, A1, S1, ?_, h2⟩
  show condK (c.val A.F) x y (ev fns n) A S = _
  rw [hc]
  exact h1
theorem wpc_if {c : Opd} {x y : AC} {A : Act'} {S : St} {Q : Out → Act' → St → Prop} {t : Bool} (hc : c.val A.F = .bool t) (h1 : t = true → wpc fns x A S Q) (h2 : t = false → wpc fns y A S Q) : wpc fns (.cond c x y) A S Q := by
  refine wpc_cond hc ?_
  cases t
  · exact h2 rfl
  · exact h1 rfl

/-- what is asked behind a block -/
def blockQ (id : Nat) (Q : Out → Act' → St → Prop) : Out → Act' → St → Prop
  | .exit i, A, S => if i = id then Q .normal A S else Q (.exit i) A S
  | o, A, S => Q o A S

theorem wpc_block {id : Nat} {c : AC} {A : Act'} {S : St} {Q : Out → Act' → St → Prop} (h : wpc fns c A S (blockQ id Q)) : wpc fns (.block id c) A S Q := by
  obtain ⟨n, o, A1, S1, h1, h2⟩ := h
  cases o with
  | normal => exact ⟨n + 1, .normal, A1, S1, by show osel ((ev fns n).code c A S) (blockK id) = _; rw [h1]; rfl, h2⟩
  | ret => exact ⟨n + 1, .ret, A1, S1, by show osel ((ev fns n).code c A S) (blockK id) = _; rw [h1]; rfl, h2⟩
  | exit i =>
    by_cases hi : i = id
    · subst hi
      have h2 : Q .normal A1 S1 := by simpa [blockQ] using h2
      exact ⟨n + 1, .normal, A1, S1, by show osel ((ev fns n).code c A S) (blockK i) = _; rw [h1]; simp [osel_some, blockK, bsel_eq, Nat.beq_eq], h2⟩
    · have h2 : Q (.exit i) A1 S1 := by simpa [blockQ, hi] using h2
      exact ⟨n + 1, .exit i, A1, S1, by show osel ((ev fns n).code c A S) (blockK id) = _; rw [h1]; simp [osel_some, blockK, bsel_eq, Nat.beq_eq, hi], h2⟩

/-- what is asked behind a round of a loop: the invariant, at a smaller measure -/
def roundQ (I : Nat → Act' → St → Prop) (k : Nat) (Q : Out → Act' → St → Prop) : Out → Act' → St → Prop
  | .normal, A, S => ∃ k', k' < k ∧ I k' A S
  | o, A, S => Q o A S

theorem wpc_loop {c : AC} {Q : Out → Act' → St → Prop} (I : Nat → Act' → St → Prop) (h : ∀ k A S, I k A S → wpc fns c A S (roundQ I k Q)) : ∀ k A S, I k A S → wpc fns (.loop c) A S Q := by
  intro k
  induction k using Nat.strongRecOn with
  | _ k ih =>
    intro A S hI
    obtain ⟨n, o, A1, S1, h1, h2⟩ := h k A S hI
    cases o with
    | normal =>
      obtain ⟨k', hk, hI'⟩ := h2
      obtain ⟨m, o, A2, S2, h3, h4⟩ := ih k' hk A1 S1 hI'
      refine ⟨max n m + 1, o, A2, S2, ?_, h4⟩
      show osel ((ev fns (max n m)).code c A S) (seqK (.loop c) (ev fns (max n m))) = _
      rw [(ev_mono fns (Nat.le_max_left n m)).code _ _ _ _ h1, osel_some]
      exact (ev_mono fns (Nat.le_max_right n m)).code _ _ _ _ h3
    | ret =>
      refine ⟨n + 1, .ret, A1, S1, ?_, h2⟩
      show osel ((ev fns n).code c A S) (seqK (.loop c) (ev fns n)) = _
      rw [h1]; rfl
    | exit i =>
      refine ⟨n + 1, .exit i, A1, S1, ?_, h2⟩
      show osel ((ev fns n).code c A S) (seqK (.loop c) (ev fns n)) = _
      rw [h1]; rfl

theorem wpc_reg {ops : List AO} {A : Act'} {S : St} {Q : Out → Act' → St → Prop} (h : wpo fns ops A.F S fun F' S' => Q .normal ⟨F', A.inr⟩ S') : wpc fns (.reg ops) A S Q := by
  obtain ⟨n, F', S', h1, h2⟩ := h
  refine ⟨n + 1, .normal, ⟨F', A.inr⟩, S', ?_, h2⟩
  show osel (evOps ops (ev fns n).call A.F S) _ = _
  rw [h1]; rfl

/-- what is asked at a function's end -/
def retQ (res : List RV) (Q : AV → St → Prop) : Out → Act' → St → Prop
  | .exit _, _, _ => False
  | _, A, S => ∃ vs, results res A.F S.h = some vs ∧ Q (oneOf vs) S

theorem wpf_fn {id nt : Nat} {res : List RV} {body : AC} {first cap args : List AV} {S : St} {Q : AV → St → Prop} (hfn : fns.get id = some ⟨nt, res, body⟩) (hn : (first ++ (args ++ cap)).length ≤ nt)
    (h : wpc fns body ⟨argsIn (first ++ (args ++ cap)) 0 .e, false⟩ S (retQ res Q)) : wpf fns (.fn id first cap) args S Q := by
  obtain ⟨n, o, A', S', h1, h2⟩ := h
  have key : ∀ (_ : ∃ vs, results res A'.F S'.h = some vs ∧ Q (oneOf vs) S') (_ : leaveK ⟨nt, res, body⟩ (o, A', S') = osel (results res A'.F S'.h) fun vs => some (oneOf vs, S')), wpf fns (.fn id first cap) args S Q := by
    rintro ⟨vs, h3, h4⟩ h5
    refine ⟨n + 1, oneOf vs, S', ?_, h4⟩
    show osel (fns.get id) (fun fn => callFn fn (appL first (appL args cap)) (ev fns n) S) = _
    rw [hfn, osel_some]
    unfold callFn
    rw [appL_eq, appL_eq, lenL_eq, Nat.ble_eq_true_of_le hn, bsel_true, h1, osel_some, h5, h3]
    rfl
  cases o with
  | normal => exact key h2 rfl
  | ret => exact key h2 rfl
  | exit i => exact h2.elim

/-! ### regions -/
theorem wpo_nil {F : Fr} {S : St} {Q : Fr → St → Prop} : wpo fns [] F S Q ↔ Q F S :=
  ⟨fun ⟨_, _, _, h1, h2⟩ => by cases h1; exact h2, fun h => ⟨0, F, S, rfl, h⟩⟩


/-- an operation that does not call -/
theorem wpo_step {o : AO} {l : List AO} {F F1 : Fr} {S S1 : St} {Q : Fr → St → Prop} (h : ∀ call, evOp o call F S = some (F1, S1)) (hl : wpo fns l F1 S1 Q) : wpo fns (o :: l) F S Q := by
  obtain ⟨n, F', S', h1, h2⟩ := hl
  refine ⟨n, F', S', ?_, h2⟩
  rw [evOps_cons, h, osel_some]
  exact h1

theorem wpo_q {d : Option Nat} {q : QOp} {m : Nat} {l : List AO} {F : Fr} {S : St} {Q : Fr → St → Prop} {v : AV} (h : evQ q F S.h = some v) (hl : wpo fns l (putF d F v) S Q) : wpo fns (⟨d, .q q, none, m⟩ :: l) F S Q :=
  wpo_step (fun call => by show osel (evQ q F S.h) _ = _; rw [h]; rfl) hl
theorem wpo_a {d : Option Nat} {a : AlOp} {m : Nat} {l : List AO} {F : Fr} {S : St} {Q : Fr → St → Prop} {v : AV} {bl : AB} (h : evA a F S.nx = some (v, bl)) (hl : wpo fns l (putF d F v) ⟨S.h.set S.nx (some bl), S.nx + 1⟩ Q) : wpo fns (⟨d, .a a, none, m⟩ :: l) F S Q :=
  wpo_step (fun call => by show osel (evA a F S.nx) _ = _; rw [h]; rfl) hl
theorem wpo_x {d : Option Nat} {x : XOp} {m : Nat} {l : List AO} {F : Fr} {S S1 : St} {Q : Fr → St → Prop} {v : AV} (h : ∀ call, evX x call F S = some (v, S1)) (hl : wpo fns l (putF d F v) S1 Q) : wpo fns (⟨d, .x x, none, m⟩ :: l) F S Q :=
  wpo_step (fun call => by show osel (evX x call F S) _ = _; rw [h]; rfl) hl
theorem wpo_call {d : Option Nat} {f : Opd} {args : List Opd} {m : Nat} {l : List AO} {F : Fr} {S : St} {Q : Fr → St → Prop} (h : wpf fns (f.val F) (valsOf args F) S fun v S1 => wpo fns l (putF d F v) S1 Q) : wpo fns (⟨d, .x (.call f args), none, m⟩ :: l) F S Q := by
  obtain ⟨n, v, S1, h1, k, F', S', h2, h3⟩ := h
  refine ⟨max n k, F', S', ?_, h3⟩
  rw [evOps_cons]
  have : evOp ⟨d, .x (.call f args), none, m⟩ (ev fns (max n k)).call F S = some (putF d F v, S1) := by
    show osel ((ev fns (max n k)).call (f.val F) (valsOf args F) S) _ = _
    rw [(ev_mono fns (Nat.le_max_left n k)).call _ _ _ _ h1]; rfl
  rw [this, osel_some]
  exact evOps_mono (ev_mono fns (Nat.le_max_right n k)).call h2
/-- an operation under a guard -/
theorem wpo_on {d : Option Nat} {op : AOp} {s : Nat} {b : Bool} {m : Nat} {l : List AO} {F : Fr} {S : St} {Q : Fr → St → Prop} (hg : tmpV s F = .bool b) (hl : wpo fns (⟨d, op, none, m⟩ :: l) F S Q) : wpo fns (⟨d, op, some (s, b), m⟩ :: l) F S Q := by
  obtain ⟨n, F', S', h1, h2⟩ := hl
  refine ⟨n, F', S', ?_, h2⟩
  rw [evOps_cons] at h1 ⊢
  have : evOp ⟨d, op, some (s, b), m⟩ (ev fns n).call F S = evOp ⟨d, op, none, m⟩ (ev fns n).call F S := by
    unfold evOp
    have e1 : wants (some (s, b)) F = true := by show isB (tmpV s F) b = true; rw [hg]; cases b <;> rfl
    have e2 : wants none F = true := rfl
    simp only [e1, e2]
  rw [this]
  exact h1
theorem wpo_off {d : Option Nat} {op : AOp} {s : Nat} {b c : Bool} {m : Nat} {l : List AO} {F : Fr} {S : St} {Q : Fr → St → Prop} (hg : tmpV s F = .bool c) (hne : c ≠ b) (hl : wpo fns l (putF d F .undef) S Q) : wpo fns (⟨d, op, some (s, b), m⟩ :: l) F S Q :=
  wpo_step (fun call => by
    unfold evOp
    have e1 : wants (some (s, b)) F = false := by show isB (tmpV s F) b = false; rw [hg]; cases b <;> cases c <;> first | rfl | exact absurd rfl hne
    simp only [e1, bsel_false]) hl

/-! ### slots -/
theorem val_t (i : Nat) (F : Fr) : (Opd.t i).val F = tmpV i F := rfl
theorem val_c (v : AV) (F : Fr) : (Opd.c v).val F = v := rfl
theorem putF_none (F : Fr) (v : AV) : putF none F v = F := rfl
theorem tmpV_putF (i j : Nat) (F : Fr) (v : AV) : tmpV i (putF (some j) F v) = if i = j then v else tmpV i F := by
  show tmpV i (F.set j (some v)) = _
  unfold tmpV
  rw [T.get_set]
  split <;> rfl
end Go.Ev

namespace Go.Ev
variable {fns : T AFn}

/-! ## Ranges over functions; calls through interfaces -/
/-- the iterator calls the loop's body -/
theorem wpf_yld {l : Nat} {args : List AV} {S : St} {Q : AV → St → Prop} {pend : Option Out} {fr F : Fr} {ps : List Nat} {as bd : AC} (hl : S.h.get l = some (.loop .ready pend fr ps as bd)) (hF : paramsIn ps args fr = some F)
    (h : wpc fns as ⟨F, true⟩ S fun o A1 S1 => o = .normal ∧ ∃ pend1 fr1 ps1 as1, S1.h.get l = some (.loop .ready pend1 fr1 ps1 as1 bd) ∧ wpc fns bd A1 ⟨S1.h.set l (some (.loop .busy pend1 fr1 ps1 as1 bd)), S1.nx⟩ fun o A2 S2 => ∃ pend2 fr2 ps2 as2 bd2, S2.h.get l = some (.loop .busy pend2 fr2 ps2 as2 bd2) ∧
      ((o = .normal ∧ Q (.bool true) ⟨S2.h.set l (some (.loop .ready none fr2 ps2 as2 bd2)), S2.nx⟩) ∨ (o ≠ .normal ∧ Q (.bool false) ⟨S2.h.set l (some (.loop .done (some o) fr2 ps2 as2 bd2)), S2.nx⟩))) : wpf fns (.yld l) args S Q := by
  obtain ⟨n, o, A1, S1, h1, rfl, pend1, fr1, ps1, as1, h2, m, o2, A2, S2, h3, pend2, fr2, ps2, as2, bd2, h4, h5⟩ := h
  have e1 := (ev_mono fns (Nat.le_max_left n m)).code _ _ _ _ h1
  have e3 := (ev_mono fns (Nat.le_max_right n m)).code _ _ _ _ h3
  have key : ∀ r, endRoundB (.loop .busy pend2 fr2 ps2 as2 bd2) o2 l S2 = some r → (ev fns (max n m + 1)).call (.yld l) args S = some r := fun r hr => by
    show osel (S.h.get l) (fun bl => roundB bl l args (ev fns (max n m)) S) = _
    rw [hl, osel_some]
    show osel (paramsIn ps args fr) (fun F => osel ((ev fns (max n m)).code as ⟨F, true⟩ S) (assignK l bd (ev fns (max n m)))) = _
    rw [hF, osel_some, e1, osel_some]
    show osel (S1.h.get l) (fun bl => beginRoundB bl l bd (ev fns (max n m)) A1 S1) = _
    rw [h2, osel_some]
    show osel ((ev fns (max n m)).code bd A1 ⟨S1.h.set l (some (.loop .busy pend1 fr1 ps1 as1 bd)), S1.nx⟩) (fun r => osel (r.2.2.h.get l) fun bl => endRoundB bl r.1 l r.2.2) = _
    rw [e3, osel_some]
    show osel (S2.h.get l) (fun bl => endRoundB bl o2 l S2) = _
    rw [h4, osel_some]
    exact hr
  rcases h5 with ⟨rfl, h5⟩ | ⟨hne, h5⟩
  · exact ⟨_, _, _, key _ rfl, h5⟩
  · refine ⟨_, _, _, key (.bool false, ⟨S2.h.set l (some (.loop .done (some o2) fr2 ps2 as2 bd2)), S2.nx⟩) ?_, h5⟩
    cases o2 with
    | normal => exact absurd rfl hne
    | _ => rfl
/-- a range over a function -/
theorem wpc_rng {f : Opd} {ps : List Nat} {as bd : AC} {A : Act'} {S : St} {Q : Out → Act' → St → Prop} {id : Nat} {first cap : List AV} (hi : A.inr = false) (hf : f.val A.F = .fn id first cap)
    (h : wpf fns (.fn id first cap) [.yld S.nx] ⟨S.h.set S.nx (some (.loop .ready none A.F ps as bd)), S.nx + 1⟩ fun _ S2 => ∃ st pend fr ps2 as2 bd2 c, S2.h.get S.nx = some (.loop st pend fr ps2 as2 bd2) ∧ st ≠ .busy ∧ outC pend = some c ∧ wpc fns c A ⟨S2.h.set S.nx (some (.loop .exhausted pend fr ps2 as2 bd2)), S2.nx⟩ Q) : wpc fns (.rng f ps as bd) A S Q := by
  obtain ⟨n, v, S2, h1, st, pend, fr, ps2, as2, bd2, c, h2, hst, hc, m, o, A', S', h3, hq⟩ := h
  refine ⟨max n m + 1, o, A', S', ?_, hq⟩
  show bsel A.inr none (bsel (isFn (f.val A.F)) (osel ((ev fns (max n m)).call (f.val A.F) [.yld S.nx] ⟨S.h.set S.nx (some (.loop .ready none A.F ps as bd)), Nat.succ S.nx⟩) fun r => osel (r.2.h.get S.nx) fun bl => rngEnd bl S.nx A r.2 (ev fns (max n m))) none) = _
  rw [hi, bsel_false, hf, show isFn (.fn id first cap) = true from rfl, bsel_true, show Nat.succ S.nx = S.nx + 1 from rfl, (ev_mono fns (Nat.le_max_left n m)).call _ _ _ _ h1, osel_some]
  show osel (S2.h.get S.nx) (fun bl => rngEnd bl S.nx A S2 (ev fns (max n m))) = _
  rw [h2, osel_some]
  have e := (ev_mono fns (Nat.le_max_right n m)).code _ _ _ _ h3
  cases st with
  | busy => exact absurd rfl hst
  | _ =>
    show osel (outC pend) (fun c => (ev fns (max n m)).code c A ⟨S2.h.set S.nx _, S2.nx⟩) = _
    rw [hc, osel_some]
    exact e
/-- a call through an interface is a call of the method -/
theorem evX_inv {tbl : List (Nat × Nat × Option (Bool × Nat))} {recv : Opd} {args : List Opd} {F : Fr} {t f : Nat} {v : AV} (hr : recv.val F = .iface t v) (hf : findM t tbl = some (f, none)) (call : CallF) (S : St) : evX (.inv tbl recv args) call F S = evX (.call (.c (.fn f [v] [])) args) call F S := by
  show invV (recv.val F) tbl (valsOf args F) call S = call (.fn f [v] []) (valsOf args F) S
  rw [hr]
  show osel (findM t tbl) (fun r => invRow r v (valsOf args F) call S) = _
  rw [hf, osel_some]
  rfl
theorem wpo_inv {d : Option Nat} {tbl : List (Nat × Nat × Option (Bool × Nat))} {recv : Opd} {args : List Opd} {m : Nat} {l : List AO} {F : Fr} {S : St} {Q : Fr → St → Prop} {t f : Nat} {v : AV} (hr : recv.val F = .iface t v) (hf : findM t tbl = some (f, none)) (h : wpf fns (.fn f [v] []) (valsOf args F) S fun v S1 => wpo fns l (putF d F v) S1 Q) : wpo fns (⟨d, .x (.inv tbl recv args), none, m⟩ :: l) F S Q := by
  obtain ⟨n, F', S', h1, h2⟩ := wpo_call (d := d) (f := .c (.fn f [v] [])) (args := args) (m := m) (l := l) (F := F) (S := S) (Q := Q) h
  refine ⟨n, F', S', ?_, h2⟩
  rw [evOps_cons] at h1 ⊢
  have e : evOp ⟨d, .x (.inv tbl recv args), none, m⟩ (ev fns n).call F S = evOp ⟨d, .x (.call (.c (.fn f [v] [])) args), none, m⟩ (ev fns n).call F S := by
    show osel (evX (.inv tbl recv args) (ev fns n).call F S) _ = osel (evX (.call (.c (.fn f [v] [])) args) (ev fns n).call F S) _
    rw [evX_inv hr hf]
  rw [e]
  exact h1
end Go.Ev

namespace Go.Ev

/-! ## Slices of integers, by what they hold -/
/-- nothing that lay there is changed -/
def Same (S S' : St) : Prop := S.nx ≤ S'.nx ∧ ∀ b, b < S.nx → S'.h.get b = S.h.get b
theorem Same.refl (S : St) : Same S S := ⟨Nat.le_refl _, fun _ _ => rfl⟩
theorem Same.trans {S S' S'' : St} (h : Same S S') (h' : Same S' S'') : Same S S'' := ⟨Nat.le_trans h.1 h'.1, fun b hb => (h'.2 b (Nat.lt_of_lt_of_le hb h.1)).trans (h.2 b hb)⟩
theorem Same.alloc (S : St) (bl : AB) : Same S ⟨S.h.set S.nx (some bl), S.nx + 1⟩ := ⟨Nat.le_succ _, fun b hb => by simp only; rw [T.get_set, if_neg (by omega)]⟩
theorem Same.put {S S' : St} {b : Nat} (h : Same S S') (hb : S.nx ≤ b) (x : Option AB) : Same S ⟨S'.h.set b x, S'.nx⟩ := ⟨h.1, fun c hc => by simp only; rw [T.get_set, if_neg (by omega)]; exact h.2 c hc⟩

/-- a slice of integers of one kind, of one cell each -/
def IsSl (k : IntKind) (S : St) (v : AV) (l : List Int) : Prop :=
  (l = [] ∧ (v = .nilsl ∨ v = .emp)) ∨ ∃ b off cap o cs, v = .sl b off l.length cap o ∧ l.length ≤ cap ∧ b < S.nx ∧ cellsAt S.h b = some cs ∧ ∀ i x, l[i]? = some x → cs[off + i]? = some (.int k x)

theorem cellsAt_same {S S' : St} (h : Same S S') {b : Nat} (hb : b < S.nx) : cellsAt S'.h b = cellsAt S.h b := by unfold cellsAt; rw [h.2 b hb]

theorem IsSl.same {k : IntKind} {S S' : St} {v : AV} {l : List Int} (h : IsSl k S v l) (hs : Same S S') : IsSl k S' v l := by
  rcases h with h | ⟨b, off, cap, o, cs, h1, hc, h2, h3, h4⟩
  · exact .inl h
  · exact .inr ⟨b, off, cap, o, cs, h1, hc, Nat.lt_of_lt_of_le h2 hs.1, by rw [cellsAt_same hs h2]; exact h3, h4⟩

theorem IsSl.len {k : IntKind} {S : St} {v : AV} {l : List Int} (h : IsSl k S v l) : lenSlV v = some (.int .i64 (.ofNat l.length)) := by
  rcases h with ⟨rfl, rfl | rfl⟩ | ⟨b, off, cap, o, cs, rfl, _⟩ <;> rfl

/-- the place of an element -/
def elemP (v : AV) (i : Nat) : AV :=
  match v with
  | .sl b off _ _ _ => .ptr b (off + i * 1)
  | _ => .undef

theorem IsSl.iaddr {k : IntKind} {S : St} {v : AV} {l : List Int} (h : IsSl k S v l) {i : Nat} (hi : i < l.length) : iaddrV (.slice 1) v i = some (elemP v i) := by
  rcases h with ⟨rfl, _⟩ | ⟨b, off, cap, o, cs, rfl, _⟩
  · simp at hi
  · simp only [iaddrV, elemP]
    have : Nat.blt i l.length = true := Nat.ble_eq_true_of_le hi
    rw [this, bsel_true]

theorem IsSl.ld {k : IntKind} {S : St} {v : AV} {l : List Int} (h : IsSl k S v l) {i : Nat} (hi : i < l.length) : qLdV (elemP v i) false 1 S.h = some (.int k (l.getD i 0)) := by
  rcases h with ⟨rfl, _⟩ | ⟨b, off, cap, o, cs, rfl, hc, hb, hcs, hel⟩
  · simp at hi
  · simp only [elemP, qLdV, loadV, bsel_false, load1, hcs, osel_some, nth_eq, Nat.mul_one]
    rw [hel i l[i] (List.getElem?_eq_getElem hi)]
    simp [List.getD_eq_getElem?_getD, hi]

/-! ### integers -/
theorem bin_add (e : EqT) (k : IntKind) (a b : Int) : binV .add e (.int k a) (.int k b) = some (.int k (k.wrap (a + b))) := by
  show intsBin .add k a k b = _
  unfold intsBin
  rw [show isShift .add = false from rfl, bsel_false, keq_refl, bsel_true]
  show some (AV.int k (iAddV k a b)) = _
  rw [iAddV_eq]
theorem bin_sub (e : EqT) (k : IntKind) (a b : Int) : binV .sub e (.int k a) (.int k b) = some (.int k (k.wrap (a - b))) := by
  show intsBin .sub k a k b = _
  unfold intsBin
  rw [show isShift .sub = false from rfl, bsel_false, keq_refl, bsel_true]
  show some (AV.int k (iSubV k a b)) = _
  rw [iSubV_eq]
theorem bin_mul (e : EqT) (k : IntKind) (a b : Int) : binV .mul e (.int k a) (.int k b) = some (.int k (k.wrap (a * b))) := by
  show intsBin .mul k a k b = _
  unfold intsBin
  rw [show isShift .mul = false from rfl, bsel_false, keq_refl, bsel_true]
  show some (AV.int k (iMulV k a b)) = _
  rw [iMulV_eq]
theorem bin_lss (e : EqT) (k : IntKind) (a b : Int) : binV .lss e (.int k a) (.int k b) = some (.bool (decide (a < b))) := by
  show intsBin .lss k a k b = _
  unfold intsBin
  rw [show isShift .lss = false from rfl, bsel_false, keq_refl, bsel_true]
  show some (AV.bool (bsel (ile b a) false true)) = _
  rw [ile_eq, bnot_eq]
  congr 2
  rw [Bool.eq_iff_iff]; simp
theorem bin_leq (e : EqT) (k : IntKind) (a b : Int) : binV .leq e (.int k a) (.int k b) = some (.bool (decide (a ≤ b))) := by
  show intsBin .leq k a k b = _
  unfold intsBin
  rw [show isShift .leq = false from rfl, bsel_false, keq_refl, bsel_true]
  show some (AV.bool (ile a b)) = _
  rw [ile_eq]
theorem bin_gtr (e : EqT) (k : IntKind) (a b : Int) : binV .gtr e (.int k a) (.int k b) = some (.bool (decide (b < a))) := by
  show intsBin .gtr k a k b = _
  unfold intsBin
  rw [show isShift .gtr = false from rfl, bsel_false, keq_refl, bsel_true]
  show some (AV.bool (bsel (ile a b) false true)) = _
  rw [ile_eq, bnot_eq]
  congr 2
  rw [Bool.eq_iff_iff]; simp
theorem bin_geq (e : EqT) (k : IntKind) (a b : Int) : binV .geq e (.int k a) (.int k b) = some (.bool (decide (b ≤ a))) := by
  show intsBin .geq k a k b = _
  unfold intsBin
  rw [show isShift .geq = false from rfl, bsel_false, keq_refl, bsel_true]
  show some (AV.bool (ile b a)) = _
  rw [ile_eq]
theorem bin_eql (e : EqT) (k : IntKind) (a b : Int) : binV .eql e (.int k a) (.int k b) = some (.bool (decide (a = b))) := by
  show intsBin .eql k a k b = _
  unfold intsBin
  rw [show isShift .eql = false from rfl, bsel_false, keq_refl, bsel_true]
  show some (AV.bool (ieq a b)) = _
  rw [ieq_eq]
  congr 2
theorem bin_neq (e : EqT) (k : IntKind) (a b : Int) : binV .neq e (.int k a) (.int k b) = some (.bool (decide (a ≠ b))) := by
  show intsBin .neq k a k b = _
  unfold intsBin
  rw [show isShift .neq = false from rfl, bsel_false, keq_refl, bsel_true]
  show some (AV.bool (bsel (ieq a b) false true)) = _
  rw [ieq_eq, bnot_eq]
  congr 2
  rw [Bool.eq_iff_iff]; simp

/-! ### the quiet operations, as equations -/
section
variable (F : Fr) (h : T AB)
theorem evQ_mv (x : Opd) : evQ (.mv x) F h = some (x.val F) := rfl
theorem evQ_bin (op : BinOp) (e : EqT) (x y : Opd) : evQ (.bin op e x y) F h = binV op e (x.val F) (y.val F) := rfl
theorem evQ_un (op : UnOp) (x : Opd) : evQ (.un op x) F h = unV op (x.val F) := rfl
theorem evQ_lenSl (x : Opd) : evQ (.lenSl x) F h = lenSlV (x.val F) := rfl
theorem evQ_iaddr (k : IxK) (x ix : Opd) : evQ (.iaddr k x ix) F h = osel (natOf (ix.val F)) fun i => iaddrV k (x.val F) i := rfl
theorem evQ_ld (agg : Bool) (n : Nat) (x : Opd) : evQ (.ld agg n x) F h = qLdV (x.val F) agg n h := rfl
theorem evQ_conv (k : ConvK) (x : Opd) : evQ (.conv k x) F h = convV k (x.val F) h := rfl
theorem evQ_extract (x : Opd) (i : Nat) : evQ (.extract x i) F h = extractV (x.val F) i := rfl
theorem evQ_pick (c a b : Opd) : evQ (.pick c a b) F h = qPickB (c.val F) a b F := rfl
theorem evQ_fld (agg : Bool) (off n : Nat) (x : Opd) : evQ (.fld agg off n x) F h = fldV (x.val F) agg off n := rfl
end
theorem natOf_ofNat (k : IntKind) (n : Nat) : natOf (.int k (.ofNat n)) = some n := rfl
theorem natOf_cast (k : IntKind) (n : Nat) : natOf (.int k (n : Int)) = some n := rfl
theorem conv_int (k j : IntKind) (n : Int) (h : T AB) : convV (.int k) (.int j n) h = some (.int k (k.wrap n)) := by
  show some (AV.int k (wrapF k n)) = _
  rw [wrapF_eq]
end Go.Ev

namespace Go.Ev
variable {fns : T AFn}

/-! ## Regions: the rules as equations -/
def onSome {α : Type} (x : Option α) (Q : α → Prop) : Prop := ∃ a, x = some a ∧ Q a
theorem onSome_some {α : Type} (a : α) (Q : α → Prop) : onSome (some a) Q = Q a := propext ⟨fun ⟨_, h1, h2⟩ => by cases h1; exact h2, fun h => ⟨a, rfl, h⟩⟩
theorem wpo_qE {d : Option Nat} {q : QOp} {m : Nat} {l : List AO} {F : Fr} {S : St} {Q : Fr → St → Prop} : wpo fns (⟨d, .q q, none, m⟩ :: l) F S Q ↔ onSome (evQ q F S.h) fun v => wpo fns l (putF d F v) S Q := by
  constructor
  · rintro ⟨n, F', S', h1, h2⟩
    rw [evOps_cons] at h1
    obtain ⟨r, h3, h4⟩ := osel_eq_some h1
    obtain ⟨v, h5, h6⟩ := osel_eq_some (show osel (evQ q F S.h) (fun v => some (putF d F v, S)) = some r from h3)
    cases h6
    exact ⟨v, h5, n, F', S', h4, h2⟩
  · rintro ⟨v, h1, h2⟩
    exact wpo_q h1 h2
theorem wpo_aE {d : Option Nat} {a : AlOp} {m : Nat} {l : List AO} {F : Fr} {S : St} {Q : Fr → St → Prop} : wpo fns (⟨d, .a a, none, m⟩ :: l) F S Q ↔ onSome (evA a F S.nx) fun r => wpo fns l (putF d F r.1) ⟨S.h.set S.nx (some r.2), S.nx + 1⟩ Q := by
  constructor
  · rintro ⟨n, F', S', h1, h2⟩
    rw [evOps_cons] at h1
    obtain ⟨r, h3, h4⟩ := osel_eq_some h1
    obtain ⟨v, h5, h6⟩ := osel_eq_some (show osel (evA a F S.nx) (fun r => some (putF d F r.1, (⟨S.h.set S.nx (some r.2), Nat.succ S.nx⟩ : St))) = some r from h3)
    cases h6
    exact ⟨v, h5, n, F', S', h4, h2⟩
  · rintro ⟨⟨v, bl⟩, h1, h2⟩
    exact wpo_a h1 h2

/-! ## Regions that draw their order -/
def wpd (fns : T AFn) (ops : List AO) (i base : Nat) (D : DS) (Q : DS → Prop) : Prop := ∃ n D', evDs ops i base (ev fns n).call D = some D' ∧ Q D'

theorem wpc_drw {ops : List AO} {A : Act'} {S : St} {Q : Out → Act' → St → Prop} (h : wpd fns ops 0 S.nx ⟨A.F, ⟨S.h, S.nx + ops.length⟩, [], [], []⟩ fun D => loadsOk S.h D.hs.reverse D.ls = true ∧ Q .normal ⟨D.F, A.inr⟩ ⟨(flush (2 ^ ops.length - 1) D.ps D.S.h).2, D.S.nx⟩) : wpc fns (.drw ops) A S Q := by
  obtain ⟨n, D, h1, h2, h3⟩ := h
  refine ⟨n + 1, .normal, ⟨D.F, A.inr⟩, ⟨(flush (2 ^ ops.length - 1) D.ps D.S.h).2, D.S.nx⟩, ?_, h3⟩
  show osel (osel (evDs ops 0 S.nx (ev fns n).call ⟨A.F, ⟨S.h, S.nx + lenL ops⟩, [], [], []⟩) fun D => endDrawn S.h (lenL ops) D) _ = _
  rw [lenL_eq, h1, osel_some]
  unfold endDrawn
  rw [h2, bsel_true]
  rfl

theorem wpd_nil {i base : Nat} {D : DS} {Q : DS → Prop} : wpd fns [] i base D Q ↔ Q D :=
  ⟨fun ⟨_, _, h1, h2⟩ => by cases h1; exact h2, fun h => ⟨0, D, rfl, h⟩⟩

theorem wpd_qE {d : Option Nat} {q : QOp} {m i base : Nat} {l : List AO} {D : DS} {Q : DS → Prop} : wpd fns (⟨d, .q q, none, m⟩ :: l) i base D Q ↔
    onSome (evQ q D.F D.S.h) fun v => wpd fns l (i + 1) base ⟨putF d D.F v, D.S, D.ps, D.hs, bsel (isLoad q) (⟨q, D.F, v, i, m⟩ :: D.ls) D.ls⟩ Q := by
  constructor
  · rintro ⟨n, D', h1, h2⟩
    obtain ⟨r, h3, h4⟩ := osel_eq_some (show osel (evD ⟨d, .q q, none, m⟩ i base (ev fns n).call D) (fun D' => evDs l (i + 1) base (ev fns n).call D') = some D' from h1)
    obtain ⟨v, h5, h6⟩ := osel_eq_some (show osel (evQ q D.F D.S.h) (fun v => some (⟨putF d D.F v, D.S, D.ps, D.hs, bsel (isLoad q) (⟨q, D.F, v, i, m⟩ :: D.ls) D.ls⟩ : DS)) = some r from h3)
    cases h6
    exact ⟨v, h5, n, D', h4, h2⟩
  · rintro ⟨v, h1, n, D', h2, h3⟩
    refine ⟨n, D', ?_, h3⟩
    show osel (osel (evQ q D.F D.S.h) _) _ = _
    rw [h1]
    exact h2
theorem wpd_aE {d : Option Nat} {a : AlOp} {m i base : Nat} {l : List AO} {D : DS} {Q : DS → Prop} : wpd fns (⟨d, .a a, none, m⟩ :: l) i base D Q ↔
    onSome (evA a D.F (base + i)) fun r => wpd fns l (i + 1) base ⟨putF d D.F r.1, D.S, ⟨i, base + i, r.2⟩ :: D.ps, D.hs, D.ls⟩ Q := by
  constructor
  · rintro ⟨n, D', h1, h2⟩
    obtain ⟨r, h3, h4⟩ := osel_eq_some (show osel (evD ⟨d, .a a, none, m⟩ i base (ev fns n).call D) (fun D' => evDs l (i + 1) base (ev fns n).call D') = some D' from h1)
    obtain ⟨v, h5, h6⟩ := osel_eq_some (show osel (evA a D.F (base + i)) (fun r => some (⟨putF d D.F r.1, D.S, ⟨i, base + i, r.2⟩ :: D.ps, D.hs, D.ls⟩ : DS)) = some r from h3)
    cases h6
    exact ⟨v, h5, n, D', h4, h2⟩
  · rintro ⟨r, h1, n, D', h2, h3⟩
    refine ⟨n, D', ?_, h3⟩
    show osel (osel (evA a D.F (base + i)) _) _ = _
    rw [h1]
    exact h2
/-- an operation that acts and does not call -/
theorem wpd_x {d : Option Nat} {x : XOp} {m i base : Nat} {l : List AO} {D : DS} {Q : DS → Prop} {v : AV} {S1 : St} (hl : lastOk D.hs m = true) (h : ∀ call, evX x call D.F ⟨(flush m D.ps D.S.h).2, D.S.nx⟩ = some (v, S1))
    (hq : wpd fns l (i + 1) base ⟨putF d D.F v, S1, (flush m D.ps D.S.h).1, (i, m, S1.h) :: D.hs, D.ls⟩ Q) : wpd fns (⟨d, .x x, none, m⟩ :: l) i base D Q := by
  obtain ⟨n, D', h2, h3⟩ := hq
  refine ⟨n, D', ?_, h3⟩
  show osel (bsel (lastOk D.hs m) (osel (evX x (ev fns n).call D.F ⟨(flush m D.ps D.S.h).2, D.S.nx⟩) _) none) _ = _
  rw [hl, bsel_true, h]
  exact h2
theorem wpd_call {d : Option Nat} {f : Opd} {args : List Opd} {m i base : Nat} {l : List AO} {D : DS} {Q : DS → Prop} (hl : lastOk D.hs m = true)
    (h : wpf fns (f.val D.F) (valsOf args D.F) ⟨(flush m D.ps D.S.h).2, D.S.nx⟩ fun v S1 => wpd fns l (i + 1) base ⟨putF d D.F v, S1, (flush m D.ps D.S.h).1, (i, m, S1.h) :: D.hs, D.ls⟩ Q) : wpd fns (⟨d, .x (.call f args), none, m⟩ :: l) i base D Q := by
  obtain ⟨n, v, S1, h1, k, D', h2, h3⟩ := h
  refine ⟨max n k, D', ?_, h3⟩
  show osel (bsel (lastOk D.hs m) (osel ((ev fns (max n k)).call (f.val D.F) (valsOf args D.F) ⟨(flush m D.ps D.S.h).2, D.S.nx⟩) _) none) _ = _
  rw [hl, bsel_true, (ev_mono fns (Nat.le_max_left n k)).call _ _ _ _ h1]
  exact evDs_mono (ev_mono fns (Nat.le_max_right n k)).call h2
theorem wpd_on {d : Option Nat} {op : AOp} {s : Nat} {b : Bool} {m i base : Nat} {l : List AO} {D : DS} {Q : DS → Prop} (hg : tmpV s D.F = .bool b) (hl : wpd fns (⟨d, op, none, m⟩ :: l) i base D Q) : wpd fns (⟨d, op, some (s, b), m⟩ :: l) i base D Q := by
  obtain ⟨n, D', h1, h2⟩ := hl
  refine ⟨n, D', ?_, h2⟩
  have : evD ⟨d, op, some (s, b), m⟩ i base (ev fns n).call D = evD ⟨d, op, none, m⟩ i base (ev fns n).call D := by
    unfold evD
    have e1 : wants (some (s, b)) D.F = true := by show isB (tmpV s D.F) b = true; rw [hg]; cases b <;> rfl
    have e2 : wants none D.F = true := rfl
    simp only [e1, e2]
    cases op <;> rfl
  show osel (evD ⟨d, op, some (s, b), m⟩ i base (ev fns n).call D) _ = _
  rw [this]
  exact h1
theorem wpd_off {d : Option Nat} {op : AOp} {s : Nat} {b c : Bool} {m i base : Nat} {l : List AO} {D : DS} {Q : DS → Prop} (hg : tmpV s D.F = .bool c) (hne : c ≠ b) (hl : wpd fns l (i + 1) base ⟨putF d D.F .undef, D.S, D.ps, D.hs, D.ls⟩ Q) : wpd fns (⟨d, op, some (s, b), m⟩ :: l) i base D Q := by
  obtain ⟨n, D', h1, h2⟩ := hl
  refine ⟨n, D', ?_, h2⟩
  have : evD ⟨d, op, some (s, b), m⟩ i base (ev fns n).call D = some ⟨putF d D.F .undef, D.S, D.ps, D.hs, D.ls⟩ := by
    unfold evD
    have e1 : wants (some (s, b)) D.F = false := by show isB (tmpV s D.F) b = false; rw [hg]; cases b <;> cases c <;> first | rfl | exact absurd rfl hne
    simp only [e1, bsel_false]
  show osel (evD ⟨d, op, some (s, b), m⟩ i base (ev fns n).call D) _ = _
  rw [this]
  exact h1

theorem same_int (k : IntKind) (a : Int) : sameV (.int k a) (.int k a) = true := by simp [sameV, bsel_eq, keq_refl, ieq_eq]
theorem same_bool (a : Bool) : sameV (.bool a) (.bool a) = true := by simp [sameV, beq2_eq]
theorem same_ptr (a b : Nat) : sameV (.ptr a b) (.ptr a b) = true := by simp [sameV, bsel_eq, Nat.beq_eq]
theorem same_sl (a b c d : Nat) (o : Bool) : sameV (.sl a b c d o) (.sl a b c d o) = true := by simp [sameV, Nat.beq_eq, beq2_eq]
theorem same_nilsl : sameV .nilsl .nilsl = true := rfl
end Go.Ev

namespace Go.Ev

/-! ## Nothing lies beyond the last block -/
def Fresh (S : St) : Prop := ∀ b, S.nx ≤ b → S.h.get b = none
def Frs (S S' : St) : Prop := (Fresh S → Fresh S') ∧ S.nx ≤ S'.nx
theorem Frs.refl (S : St) : Frs S S := ⟨id, Nat.le_refl _⟩
theorem Frs.trans {S S' S'' : St} (h : Frs S S') (h' : Frs S' S'') : Frs S S'' := ⟨fun f => h'.1 (h.1 f), Nat.le_trans h.2 h'.2⟩
theorem Fresh.lt {S : St} (h : Fresh S) {b : Nat} {bl : AB} (hb : S.h.get b = some bl) : b < S.nx := by
  rcases Nat.lt_or_ge b S.nx with h1 | h1
  · exact h1
  · rw [h b h1] at hb; cases hb
theorem frs_set {S : St} {b : Nat} {bl : AB} (hb : S.h.get b = some bl) (x : Option AB) : Frs S ⟨S.h.set b x, S.nx⟩ :=
  ⟨fun h c hc => by have := h.lt hb; simp only at hc ⊢; rw [T.get_set, if_neg (by omega)]; exact h c hc, Nat.le_refl _⟩
theorem frs_none {S : St} (b : Nat) : Frs S ⟨S.h.set b none, S.nx⟩ :=
  ⟨fun h c hc => by simp only at hc ⊢; rw [T.get_set]; split; rfl; exact h c hc, Nat.le_refl _⟩
theorem frs_alloc (S : St) (x : Option AB) : Frs S ⟨S.h.set S.nx x, S.nx + 1⟩ :=
  ⟨fun h c hc => by simp only at hc ⊢; rw [T.get_set, if_neg (by omega)]; exact h c (by omega), Nat.le_succ _⟩

theorem storeN_frs {S S' : St} {b off : Nat} {vs : List AV} (h : storeN S b off vs = some S') : Frs S S' := by
  unfold storeN at h
  obtain ⟨bl, hb, h⟩ := osel_eq_some h
  unfold storeB at h
  split at h
  · obtain ⟨cs, _, h⟩ := osel_eq_some h
    cases h
    exact frs_set hb _
  · cases h

def CallFr (c : CallF) : Prop := ∀ f args S v S', c f args S = some (v, S') → Frs S S'
structure EvsFr (e : Evs) : Prop where
  code : ∀ c A S o A' S', e.code c A S = some (o, A', S') → Frs S S'
  call : CallFr e.call

theorem grown_frs {S : St} {need size : Nat} {cs : List AV} {v : AV} {S' : St} (h : grown S.h S.nx need size cs = some (v, S')) : Frs S S' := by
  unfold grown at h
  cases h
  exact frs_alloc S _
theorem appV_frs {s : AV} {bytes size n : Nat} {new : List AV} {S S' : St} {v : AV} (h : appV s bytes size n new S = some (v, S')) : Frs S S' := by
  unfold appV at h
  split at h
  · unfold appNil at h
    rw [bsel_eq] at h
    split at h
    · cases h; exact Frs.refl _
    · obtain ⟨_, h⟩ := bsel_some h
      obtain ⟨_, h⟩ := bsel_some h
      exact grown_frs h
  · obtain ⟨_, h⟩ := bsel_some h
    cases h; exact Frs.refl _
  · unfold appSl at h
    rw [bsel_eq] at h
    split at h
    · rw [bsel_eq] at h
      split at h
      · cases h; exact Frs.refl _
      · obtain ⟨S1, h1, h⟩ := osel_eq_some h
        cases h
        exact storeN_frs h1
    · obtain ⟨_, h⟩ := bsel_some h
      obtain ⟨_, h⟩ := bsel_some h
      obtain ⟨bl, hb, h⟩ := osel_eq_some h
      unfold growB at h
      split at h
      · obtain ⟨old, _, h⟩ := osel_eq_some h
        rw [bsel_eq] at h
        split at h
        · obtain ⟨_, h⟩ := bsel_some h
          obtain ⟨_, h⟩ := bsel_some h
          obtain ⟨_, h⟩ := bsel_some h
          exact Frs.trans (frs_none (S := S) _) (grown_frs (S := ⟨_, S.nx⟩) h)
        · exact grown_frs h
      · obtain ⟨_, h⟩ : _ ∧ _ := by
          rw [bsel_eq] at h
          split at h
          · cases h
          · exact ⟨trivial, h⟩
        obtain ⟨old, _, h⟩ := osel_eq_some h
        exact grown_frs h
      · cases h
  · cases h

theorem evX_frs {c : CallF} (hc : CallFr c) {x : XOp} {F : Fr} {S S' : St} {v : AV} (h : evX x c F S = some (v, S')) : Frs S S' := by
  cases x with
  | st n x v =>
    obtain ⟨cs, _, h⟩ := osel_eq_some (show osel _ _ = _ from h)
    unfold xStV at h
    split at h
    · obtain ⟨_, h⟩ := bsel_some h
      obtain ⟨S1, h1, h⟩ := osel_eq_some h
      cases h
      exact storeN_frs h1
    · cases h
  | call f args => exact hc _ _ _ _ _ h
  | inv tbl recv args =>
    have h : invV (recv.val F) tbl (valsOf args F) c S = some (v, S') := h
    unfold invV at h
    split at h
    · obtain ⟨r, _, h⟩ := osel_eq_some h
      unfold invRow at h
      split at h
      · exact hc _ _ _ _ _ h
      · unfold invPtr at h
        split at h
        · obtain ⟨_, _, h⟩ := osel_eq_some h
          exact hc _ _ _ _ _ h
        · cases h
    · cases h
  | app t size bytes s x =>
    have h : appendV bytes size (s.val F) (x.val F) S = some (v, S') := h
    unfold appendV at h
    obtain ⟨n, _, h⟩ := osel_eq_some h
    obtain ⟨new, _, h⟩ := osel_eq_some h
    exact appV_frs h
  | copy size d s =>
    obtain ⟨m, _, h⟩ := osel_eq_some (show osel (lenOfS (s.val F)) (fun m => copyV (d.val F) size m (s.val F) S) = _ from h)
    unfold copyV at h
    split at h
    · cases h; exact Frs.refl _
    · cases h; exact Frs.refl _
    · simp only [bsel_eq] at h
      split at h
      · split at h
        · cases h; exact Frs.refl _
        · obtain ⟨_, _, h⟩ := osel_eq_some h
          obtain ⟨S1, h1, h⟩ := osel_eq_some h
          cases h
          exact storeN_frs h1
      · split at h
        · cases h; exact Frs.refl _
        · obtain ⟨_, _, h⟩ := osel_eq_some h
          obtain ⟨S1, h1, h⟩ := osel_eq_some h
          cases h
          exact storeN_frs h1
    · cases h
  | mapUpd sk m k v' =>
    have h : mapUpdV (m.val F) sk (k.val F) (v'.val F) S = some (v, S') := h
    unfold mapUpdV at h
    split at h
    · obtain ⟨es, he, h⟩ := osel_eq_some h
      obtain ⟨bl, hb, _⟩ := osel_eq_some he
      obtain ⟨r, _, h⟩ := osel_eq_some h
      cases h
      exact frs_set hb _
    · cases h
  | mapDel sk m k =>
    have h : mapDelV (m.val F) sk (k.val F) S = some (v, S') := h
    unfold mapDelV at h
    split at h
    · obtain ⟨es, he, h⟩ := osel_eq_some h
      obtain ⟨bl, hb, _⟩ := osel_eq_some he
      obtain ⟨r, _, h⟩ := osel_eq_some h
      unfold mapDelR at h
      split at h
      · cases h; exact frs_set hb _
      · cases h; exact Frs.refl _
    · cases h; exact Frs.refl _
    · cases h
  | clr zero x =>
    have h : clrV (x.val F) zero S = some (v, S') := h
    unfold clrV at h
    split at h
    · cases h; exact Frs.refl _
    · cases h; exact Frs.refl _
    · rw [bsel_eq] at h
      split at h
      · cases h; exact Frs.refl _
      · obtain ⟨S1, h1, h⟩ := osel_eq_some h
        cases h
        exact storeN_frs h1
    · cases h
  | ext k args =>
    obtain ⟨r, _, h⟩ := osel_eq_some (show osel _ _ = _ from h)
    cases h
    exact Frs.refl _
  | bad => cases h

theorem evOp_frs {c : CallF} (hc : CallFr c) {o : AO} {F F' : Fr} {S S' : St} (h : evOp o c F S = some (F', S')) : Frs S S' := by
  unfold evOp at h
  rw [bsel_eq] at h
  split at h
  · cases ho : o.op with
    | q q =>
      rw [ho] at h
      obtain ⟨v, _, h⟩ := osel_eq_some (show osel _ _ = _ from h)
      cases h; exact Frs.refl _
    | a a =>
      rw [ho] at h
      obtain ⟨r, _, h⟩ := osel_eq_some (show osel _ _ = _ from h)
      cases h; exact frs_alloc S _
    | x x =>
      rw [ho] at h
      obtain ⟨r, hr, h⟩ := osel_eq_some (show osel (evX x c F S) _ = _ from h)
      cases h; exact evX_frs hc hr
  · cases h; exact Frs.refl _

theorem evOps_frs {c : CallF} (hc : CallFr c) : ∀ {l : List AO} {F F' : Fr} {S S' : St}, evOps l c F S = some (F', S') → Frs S S'
  | [], F, F', S, S', h => by cases h; exact Frs.refl _
  | o :: l, F, F', S, S', h => by
    obtain ⟨⟨F1, S1⟩, h1, h2⟩ := osel_eq_some (show osel (evOp o c F S) (fun r => evOps l c r.1 r.2) = some (F', S') from h)
    exact (evOp_frs hc h1).trans (evOps_frs hc h2)

theorem flush_frs {S : St} {m : Nat} : ∀ {ps : List Pend} {h : T AB}, (∀ p ∈ ps, p.id < S.nx) → Frs ⟨h, S.nx⟩ ⟨(flush m ps h).2, S.nx⟩ ∧ ∀ p ∈ (flush m ps h).1, p.id < S.nx
  | [], h, _ => ⟨Frs.refl _, fun p hp => (by cases hp)⟩
  | p :: ps, h, hp => by
    have h1 := hp p (by simp)
    have h2 : ∀ q ∈ ps, q.id < S.nx := fun q hq => hp q (by simp [hq])
    unfold flush
    cases Nat.testBit m p.i with
    | true =>
      rw [bsel_true]
      have ih := flush_frs (S := S) (m := m) (h := h.set p.id (some p.b)) h2
      have k : Frs ⟨h, S.nx⟩ ⟨h.set p.id (some p.b), S.nx⟩ := ⟨fun f c hc => by
        simp only at hc ⊢
        rw [T.get_set, if_neg (by omega)]
        exact f c hc, Nat.le_refl _⟩
      exact ⟨k.trans ih.1, ih.2⟩
    | false =>
      rw [bsel_false]
      have ih := flush_frs (S := S) (m := m) (h := h) h2
      refine ⟨ih.1, fun q hq => ?_⟩
      rcases List.mem_cons.1 hq with rfl | hq
      · exact h1
      · exact ih.2 q hq

theorem evDs_frs {c : CallF} (hc : CallFr c) {base N : Nat} : ∀ {l : List AO} {i : Nat} {D D' : DS}, i + l.length ≤ N → base + N ≤ D.S.nx → (∀ p ∈ D.ps, p.id < D.S.nx) → evDs l i base c D = some D' → Frs D.S D'.S ∧ ∀ p ∈ D'.ps, p.id < D'.S.nx
  | [], i, D, D', _, _, hp, h => by cases h; exact ⟨Frs.refl _, hp⟩
  | o :: l, i, D, D', hi, hb, hp, h => by
    obtain ⟨D1, h1, h2⟩ := osel_eq_some (show osel (evD o i base c D) (fun D' => evDs l (i + 1) base c D') = some D' from h)
    simp only [List.length_cons] at hi
    have key : Frs D.S D1.S ∧ ∀ p ∈ D1.ps, p.id < D1.S.nx := by
      unfold evD at h1
      rw [bsel_eq] at h1
      split at h1
      · cases ho : o.op with
        | q q =>
          rw [ho] at h1
          obtain ⟨v, _, h⟩ := osel_eq_some (show osel _ _ = _ from h1)
          cases h; exact ⟨Frs.refl _, hp⟩
        | a a =>
          rw [ho] at h1
          obtain ⟨r, _, h⟩ := osel_eq_some (show osel _ _ = _ from h1)
          cases h
          refine ⟨Frs.refl _, fun p hq => ?_⟩
          rcases List.mem_cons.1 hq with rfl | hq
          · simp only; omega
          · exact hp p hq
        | x x =>
          rw [ho] at h1
          obtain ⟨_, h1⟩ := bsel_some (show bsel (lastOk D.hs o.mask) _ none = some D1 from h1)
          obtain ⟨r, hr, h⟩ := osel_eq_some h1
          cases h
          have hf := flush_frs (S := D.S) (m := o.mask) (h := D.S.h) hp
          have hx := evX_frs hc hr
          exact ⟨hf.1.trans hx, fun p hq => Nat.lt_of_lt_of_le (hf.2 p hq) hx.2⟩
      · cases h1; exact ⟨Frs.refl _, hp⟩
    have ih := evDs_frs hc (i := i + 1) (D := D1) (by omega) (Nat.le_trans hb key.1.2) key.2 h2
    exact ⟨key.1.trans ih.1, ih.2⟩

theorem evDrawn_frs {c : CallF} (hc : CallFr c) {l : List AO} {F F' : Fr} {S S' : St} (h : evDrawn l c F S = some (F', S')) : Frs S S' := by
  obtain ⟨D, h1, h2⟩ := osel_eq_some (show osel _ _ = _ from h)
  rw [lenL_eq] at h1
  have hd := evDs_frs hc (N := l.length) (by omega) (by simp only; omega) (fun p hp => by cases hp) h1
  unfold endDrawn at h2
  obtain ⟨_, h2⟩ := bsel_some h2
  cases h2
  have hf := flush_frs (S := D.S) (m := 2 ^ lenL l - 1) (h := D.S.h) hd.2
  have h0 : Frs S ⟨S.h, S.nx + l.length⟩ := ⟨fun f c hcc => f c (by simp only at hcc; omega), Nat.le_add_right _ _⟩
  exact h0.trans (hd.1.trans hf.1)

theorem evCode_frs {e : Evs} (he : EvsFr e) {c : AC} {A A' : Act'} {S S' : St} {o : Out} (h : evCode c e A S = some (o, A', S')) : Frs S S' := by
  have seqF : ∀ {x y : AC}, osel (e.code x A S) (seqK y e) = some (o, A', S') → Frs S S' := fun {x y} h => by
    obtain ⟨⟨o1, A1, S1⟩, h1, h2⟩ := osel_eq_some h
    unfold seqK at h2
    split at h2
    · exact (he.code _ _ _ _ _ _ h1).trans (he.code _ _ _ _ _ _ h2)
    · cases h2; exact he.code _ _ _ _ _ _ h1
  cases c with
  | skip => cases h; exact Frs.refl _
  | seq x y => exact seqF h
  | cond x y z =>
    have h : condK (x.val A.F) y z e A S = some (o, A', S') := h
    unfold condK at h
    split at h
    · exact he.code _ _ _ _ _ _ h
    · cases h
  | block id x =>
    obtain ⟨⟨o1, A1, S1⟩, h1, h2⟩ := osel_eq_some (show osel (e.code x A S) (blockK id) = _ from h)
    unfold blockK at h2
    split at h2
    · rw [bsel_eq] at h2
      split at h2 <;> (cases h2; exact he.code _ _ _ _ _ _ h1)
    · cases h2; exact he.code _ _ _ _ _ _ h1
  | loop x => exact seqF h
  | exit id => cases h; exact Frs.refl _
  | ret => cases h; exact Frs.refl _
  | reg ops =>
    obtain ⟨⟨F1, S1⟩, h1, h2⟩ := osel_eq_some (show osel (evOps ops e.call A.F S) _ = _ from h)
    cases h2
    exact evOps_frs he.call h1
  | drw ops =>
    obtain ⟨⟨F1, S1⟩, h1, h2⟩ := osel_eq_some (show osel (evDrawn ops e.call A.F S) _ = _ from h)
    cases h2
    exact evDrawn_frs he.call h1
  | rng f ps as bd =>
    have h : cRng f ps as bd e A S = some (o, A', S') := h
    unfold cRng at h
    rw [bsel_eq] at h
    split at h
    · cases h
    · obtain ⟨_, h⟩ := bsel_some h
      obtain ⟨⟨v, S1⟩, h1, h⟩ := osel_eq_some h
      obtain ⟨bl, hb, h⟩ := osel_eq_some h
      have k1 := (frs_alloc S (some (.loop .ready none A.F ps as bd))).trans (he.call _ _ _ _ _ h1)
      unfold rngEnd at h
      split at h
      · split at h
        · cases h
        · obtain ⟨cc, _, h⟩ := osel_eq_some h
          exact k1.trans ((frs_set (S := S1) hb _).trans (he.code _ _ _ _ _ _ h))
      · cases h
  | dfr ops f args => cases h

theorem evCall_frs {fns : T AFn} {e : Evs} (he : EvsFr e) : CallFr (evCall fns e) := by
  intro f args S v S' h
  unfold evCall at h
  split at h
  · obtain ⟨fn, _, h⟩ := osel_eq_some h
    unfold callFn at h
    obtain ⟨_, h⟩ := bsel_some h
    obtain ⟨⟨o, A, S1⟩, h1, h2⟩ := osel_eq_some h
    unfold leaveK at h2
    split at h2
    · cases h2
    · obtain ⟨vs, _, h3⟩ := osel_eq_some h2
      cases h3
      exact he.code _ _ _ _ _ _ h1
  · obtain ⟨bl, hb, h⟩ := osel_eq_some h
    unfold roundB at h
    split at h
    · obtain ⟨F, _, h⟩ := osel_eq_some h
      obtain ⟨⟨o1, A1, S1⟩, h1, h⟩ := osel_eq_some h
      unfold assignK at h
      split at h
      · obtain ⟨bl2, hb2, h⟩ := osel_eq_some h
        unfold beginRoundB at h
        split at h
        · unfold bodyRound at h
          obtain ⟨⟨o2, A2, S2⟩, h2, h⟩ := osel_eq_some h
          obtain ⟨bl3, hb3, h⟩ := osel_eq_some h
          have k := (he.code _ _ _ _ _ _ h1).trans ((frs_set (S := S1) hb2 _).trans (he.code _ _ _ _ _ _ h2))
          unfold endRoundB at h
          split at h
          · split at h
            · cases h; exact k.trans (frs_set (S := S2) hb3 _)
            · cases h; exact k.trans (frs_set (S := S2) hb3 _)
          · cases h
        · cases h
      · cases h
    · cases h
  · cases h

theorem ev_frs (fns : T AFn) : ∀ n, EvsFr (ev fns n)
  | 0 => ⟨fun c A S o A' S' (h : none = some _) => (by cases h), fun f args S v S' (h : none = some _) => (by cases h)⟩
  | n + 1 => ⟨fun _ _ _ _ _ _ h => evCode_frs (ev_frs fns n) h, evCall_frs (ev_frs fns n)⟩

/-- a call keeps that nothing lies beyond the last block -/
theorem wpf_fresh {fns : T AFn} {f : AV} {args : List AV} {S : St} {Q : AV → St → Prop} (h : wpf fns f args S Q) : wpf fns f args S fun v S' => Q v S' ∧ Frs S S' := by
  obtain ⟨n, v, S', h1, h2⟩ := h
  exact ⟨n, v, S', h1, h2, (ev_frs fns n).call _ _ _ _ _ h1⟩
theorem wpc_fresh {fns : T AFn} {c : AC} {A : Act'} {S : St} {Q : Out → Act' → St → Prop} (h : wpc fns c A S Q) : wpc fns c A S fun o A' S' => Q o A' S' ∧ Frs S S' := by
  obtain ⟨n, o, A', S', h1, h2⟩ := h
  exact ⟨n, o, A', S', h1, h2, (ev_frs fns n).code _ _ _ _ _ _ h1⟩
end Go.Ev

namespace Go.Ev
variable {P : Program} {σ : Env} {S : St} {w : World}

/-! ## A call without arguments that is known by its run from the start: it stands for itself, where the tables lie -/
def chkC : List (Nat × Nat × IntKind × Int) → AC
  | [] => .seq (.reg [⟨some 0, .q (.mv (.c (.bool true))), none, 0⟩]) .ret
  | (g, j, k, z) :: l => .seq (.reg [⟨some 1, .q (.ld false 1 (.c (.ptr g j))), none, 0⟩, ⟨some 2, .q (.bin .eql (.p .int) (.t 1) (.c (.int k z))), none, 0⟩]) (.seq (.cond (.t 2) .skip (.exit 0)) (chkC l))
def fakeFn (l : List (Nat × Nat × IntKind × Int)) : AFn := ⟨0, [.t 0], chkC l⟩

theorem wpc_chk {fns : T AFn} {Q : Out → Act' → St → Prop} (hQ : ∀ A, tmpV 0 A.F = .bool true → Q .ret A S) : ∀ {l : List (Nat × Nat × IntKind × Int)} {A : Act'}, (∀ c ∈ l, load1 S.h c.1 c.2.1 = some (.int c.2.2.1 c.2.2.2)) → wpc fns (chkC l) A S Q
  | [], A, _ => by
    refine wpc_seq (wpc_reg ?_)
    rw [wpo_qE]
    exact ⟨.bool true, rfl, (wpo_nil).2 (wpc_ret (hQ _ (by rw [tmpV_putF, if_pos rfl])))⟩
  | (g, j, k, z) :: l, A, h => by
    have h1 := h (g, j, k, z) (by simp)
    simp only at h1
    refine wpc_seq (wpc_reg (wpo_q (v := .int k z) h1 (wpo_q (v := .bool true) ?_ (wpo_nil.2 ?_))))
    · show binV .eql (.p .int) (tmpV 1 (putF (some 1) A.F (.int k z))) (.int k z) = _
      rw [tmpV_putF, if_pos rfl, bin_eql, decide_eq_true rfl]
    refine wpc_seq (wpc_if (t := true) (by show tmpV 2 _ = _; rw [tmpV_putF, if_pos rfl]) (fun _ => wpc_skip ?_) (fun h => by cases h))
    exact wpc_chk hQ fun c hc => h c (by simp [hc])

/-- the fake's call, where the tables lie -/
theorem wpf_fake {fns : T AFn} {id : Nat} {l : List (Nat × Nat × IntKind × Int)} (hfn : fns.get id = some (fakeFn l)) (h : ∀ c ∈ l, load1 S.h c.1 c.2.1 = some (.int c.2.2.1 c.2.2.2)) : wpf fns (.fn id [] []) [] S fun r S' => r = .bool true ∧ S' = S := by
  refine wpf_fn hfn (by simp) (wpc_chk (fun A hA => ?_) h)
  exact ⟨[tmpV 0 A.F], rfl, by rw [hA]; rfl, rfl⟩

theorem bin_eql_true {v : AV} {k : IntKind} {z : Int} (h : binV .eql (.p .int) v (.int k z) = some (.bool true)) : v = .int k z := by
  cases v with
  | int k' z' =>
    have h' : intsBin .eql k' z' k z = some (.bool true) := h
    unfold intsBin at h'
    rw [show isShift .eql = false from rfl, bsel_false] at h'
    obtain ⟨hk, h'⟩ := bsel_some h'
    have hz : some (AV.bool (ieq z' z)) = some (.bool true) := h'
    simp only [Option.some.injEq, AV.bool.injEq] at hz
    rw [ieq_eq] at hz
    have hz := eq_of_beq hz
    subst hz
    have hkk : k' = k := by
      cases k <;> cases k' <;> first | rfl | (exfalso; revert hk; decide)
    rw [hkk]
  | _ => cases h

/-- what the fake's run says of the tables -/
theorem chk_says {fns : T AFn} : ∀ {l : List (Nat × Nat × IntKind × Int)} {n : Nat} {A A' : Act'} {S' : St} {o : Out}, (ev fns n).code (chkC l) A S = some (o, A', S') → (∀ i, o ≠ .exit i) → (∀ c ∈ l, load1 S.h c.1 c.2.1 = some (.int c.2.2.1 c.2.2.2)) ∧ S' = S ∧ tmpV 0 A'.F = .bool true
  | l, 0, _, _, _, _, h, _ => by cases h
  | l, 1, A, A', S', o, h, _ => by
    cases l with
    | nil =>
      have h' : (none : Option (Out × Act' × St)) = some (o, A', S') := h
      cases h'
    | cons c l =>
      obtain ⟨g, j, k, z⟩ := c
      have h' : (none : Option (Out × Act' × St)) = some (o, A', S') := h
      cases h'
  | [], n + 2, A, A', S', o, h, ho => by
    obtain ⟨⟨o1, A1, S1⟩, h1, h2⟩ := osel_eq_some (show osel ((ev fns (n + 1)).code (.reg [⟨some 0, .q (.mv (.c (.bool true))), none, 0⟩]) A S) (seqK .ret (ev fns (n + 1))) = some (o, A', S') from h)
    have e1 : (ev fns (n + 1)).code (.reg [⟨some 0, .q (.mv (.c (.bool true))), none, 0⟩]) A S = some (.normal, ⟨putF (some 0) A.F (.bool true), A.inr⟩, S) := rfl
    rw [e1] at h1
    cases h1
    have e2 : seqK .ret (ev fns (n + 1)) (.normal, ⟨putF (some 0) A.F (.bool true), A.inr⟩, S) = some (.ret, ⟨putF (some 0) A.F (.bool true), A.inr⟩, S) := rfl
    rw [e2] at h2
    cases h2
    exact ⟨fun c hc => (by cases hc), rfl, by rw [tmpV_putF, if_pos rfl]⟩
  | (g, j, k, z) :: l, n + 2, A, A', S', o, h, ho => by
    obtain ⟨⟨o1, A1, S1⟩, h1, h2⟩ := osel_eq_some (show osel ((ev fns (n + 1)).code (.reg [⟨some 1, .q (.ld false 1 (.c (.ptr g j))), none, 0⟩, ⟨some 2, .q (.bin .eql (.p .int) (.t 1) (.c (.int k z))), none, 0⟩]) A S) (seqK (.seq (.cond (.t 2) .skip (.exit 0)) (chkC l)) (ev fns (n + 1))) = some (o, A', S') from h)
    obtain ⟨⟨F1, S2⟩, h3, h4⟩ := osel_eq_some (show osel (evOps [⟨some 1, .q (.ld false 1 (.c (.ptr g j))), none, 0⟩, ⟨some 2, .q (.bin .eql (.p .int) (.t 1) (.c (.int k z))), none, 0⟩] (ev fns n).call A.F S) (fun r => some (.normal, (⟨r.1, A.inr⟩ : Act'), r.2)) = some (o1, A1, S1) from h1)
    cases h4
    rw [evOps_cons] at h3
    obtain ⟨⟨F2, S3⟩, h5, h6⟩ := osel_eq_some h3
    obtain ⟨v, hv, h7⟩ := osel_eq_some (show osel (load1 S.h g j) (fun v => some (putF (some 1) A.F v, S)) = some (F2, S3) from h5)
    cases h7
    rw [evOps_cons] at h6
    obtain ⟨⟨F4, S4⟩, h8, h9⟩ := osel_eq_some h6
    cases h9
    obtain ⟨b, hb, h10⟩ := osel_eq_some (show osel (binV .eql (.p .int) (tmpV 1 (putF (some 1) A.F v)) (.int k z)) (fun u => some (putF (some 2) (putF (some 1) A.F v) u, S)) = some (F4, S4) from h8)
    cases h10
    rw [tmpV_putF, if_pos rfl] at hb
    have h2 : (ev fns (n + 1)).code (.seq (.cond (.t 2) .skip (.exit 0)) (chkC l)) ⟨putF (some 2) (putF (some 1) A.F v) b, A.inr⟩ S = some (o, A', S') := h2
    obtain ⟨⟨o5, A5, S5⟩, k1, k2⟩ := osel_eq_some (show osel ((ev fns n).code (.cond (.t 2) .skip (.exit 0)) ⟨putF (some 2) (putF (some 1) A.F v) b, A.inr⟩ S) (seqK (chkC l) (ev fns n)) = some (o, A', S') from h2)
    cases n with
    | zero => cases k1
    | succ n =>
      have k1 : condK (tmpV 2 (putF (some 2) (putF (some 1) A.F v) b)) .skip (.exit 0) (ev fns n) ⟨putF (some 2) (putF (some 1) A.F v) b, A.inr⟩ S = some (o5, A5, S5) := k1
      rw [tmpV_putF, if_pos rfl] at k1
      cases b with
      | bool t =>
        have k1 : (ev fns n).code (bsel t .skip (.exit 0)) ⟨putF (some 2) (putF (some 1) A.F v) (.bool t), A.inr⟩ S = some (o5, A5, S5) := k1
        cases t with
        | true =>
          rw [bsel_true] at k1
          cases n with
          | zero => cases k1
          | succ n =>
            have e : (ev fns (n + 1)).code .skip ⟨putF (some 2) (putF (some 1) A.F v) (.bool true), A.inr⟩ S = some (.normal, ⟨putF (some 2) (putF (some 1) A.F v) (.bool true), A.inr⟩, S) := rfl
            rw [e] at k1
            cases k1
            have ih := chk_says (l := l) (show (ev fns (n + 1 + 1)).code (chkC l) _ S = some (o, A', S') from k2) ho
            refine ⟨fun c hc => ?_, ih.2⟩
            rcases List.mem_cons.1 hc with rfl | hc
            · rw [hv, bin_eql_true hb]
            · exact ih.1 c hc
        | false =>
          rw [bsel_false] at k1
          cases n with
          | zero => cases k1
          | succ n =>
            have e : (ev fns (n + 1)).code (.exit 0) ⟨putF (some 2) (putF (some 1) A.F v) (.bool false), A.inr⟩ S = some (.exit 0, ⟨putF (some 2) (putF (some 1) A.F v) (.bool false), A.inr⟩, S) := rfl
            rw [e] at k1
            cases k1
            have k2 : some (Out.exit 0, (⟨putF (some 2) (putF (some 1) A.F v) (.bool false), A.inr⟩ : Act'), S) = some (o, A', S') := k2
            cases k2
            exact absurd rfl (ho 0)
      | _ => cases k1

theorem fake_says {fns : T AFn} {l : List (Nat × Nat × IntKind × Int)} {n : Nat} {S' : St} {v : AV} (h : callFn (fakeFn l) [] (ev fns n) S = some (v, S')) : (∀ c ∈ l, load1 S.h c.1 c.2.1 = some (.int c.2.2.1 c.2.2.2)) ∧ S' = S ∧ v = .bool true := by
  unfold callFn at h
  obtain ⟨_, h⟩ := bsel_some h
  obtain ⟨⟨o, A', S1⟩, h1, h2⟩ := osel_eq_some h
  unfold leaveK at h2
  split at h2
  · cases h2
  · rename_i hne
    obtain ⟨vs, h3, h4⟩ := osel_eq_some h2
    cases h4
    obtain ⟨k1, k2, k3⟩ := chk_says (show (ev fns n).code (chkC l) ⟨.e, false⟩ S = some (o, A', S1) from h1) (fun i e => hne i e)
    refine ⟨k1, k2, ?_⟩
    have : some [tmpV 0 A'.F] = some vs := h3
    cases this
    exact k3

/-- the tables, cell by cell -/
def cellsL : Nat → Nat → List (IntKind × Int) → List (Nat × Nat × IntKind × Int)
  | _, _, [] => []
  | g, j, (k, z) :: l => (g, j, k, z) :: cellsL g (j + 1) l
theorem cellsL_mem : ∀ {l : List (IntKind × Int)} {g j i : Nat} {k : IntKind} {z : Int}, l[i]? = some (k, z) → (g, j + i, k, z) ∈ cellsL g j l
  | [], _, _, _, _, _, h => by simp at h
  | (k, z) :: l, g, j, 0, k', z', h => by
    simp at h
    obtain ⟨rfl, rfl⟩ := h
    simp [cellsL]
  | (k, z) :: l, g, j, i + 1, k', z', h => by
    have := cellsL_mem (g := g) (j := j + 1) (show l[i]? = some (k', z') by simpa using h)
    rw [show j + (i + 1) = j + 1 + i by omega]
    exact List.mem_cons_of_mem _ this
def allCells : List (Nat × List (IntKind × Int)) → List (Nat × Nat × IntKind × Int)
  | [] => []
  | (g, l) :: r => cellsL g 0 l ++ allCells r
theorem allCells_mem : ∀ {t : List (Nat × List (IntKind × Int))} {g : Nat} {l : List (IntKind × Int)}, (g, l) ∈ t → ∀ c ∈ cellsL g 0 l, c ∈ allCells t
  | (g', l') :: t, g, l, h, c, hc => by
    simp only [allCells, List.mem_append]
    rcases List.mem_cons.1 h with h | h
    · cases h; exact .inl hc
    · exact .inr (allCells_mem h c hc)

/-- where the fake goes through, the world's tables are those -/
theorem tabs_of_rep (hR : Rep P σ S w) {t : List (Nat × List (IntKind × Int))} (hg : ∀ x ∈ t, x.1 < P.globals.size ∧ x.2 ≠ []) (h : ∀ c ∈ allCells t, load1 S.h c.1 c.2.1 = some (.int c.2.2.1 c.2.2.2)) : Tabs P (t.map fun x => (x.1, x.2.map fun y => AV.int y.1 y.2)) w := by
  intro x hx
  obtain ⟨⟨g, l⟩, hgl, rfl⟩ := List.mem_map.1 hx
  obtain ⟨h1, h2⟩ := hg _ hgl
  have hc : ∀ i k z, l[i]? = some (k, z) → load1 S.h g i = some (.int k z) := fun i k z hi => by
    have := h _ (allCells_mem hgl _ (cellsL_mem (g := g) (j := 0) hi))
    simpa using this
  -- the block
  obtain ⟨⟨k0, z0⟩, l', rfl⟩ : ∃ a l', l = a :: l' := by cases l with | nil => exact absurd rfl h2 | cons a l' => exact ⟨a, l', rfl⟩
  have h0 := hc 0 k0 z0 rfl
  unfold load1 cellsAt at h0
  obtain ⟨cs, h3, h4⟩ := osel_eq_some h0
  obtain ⟨bl, h5, h6⟩ := osel_eq_some h3
  obtain ⟨L, h7, h8, h9⟩ := hR.blk g bl h5
  rw [hR.glob g h1] at h7
  cases h7
  have hcs : ∀ i k z, ((k0, z0) :: l')[i]? = some (k, z) → cs[i]? = some (AV.int k z) := fun i k z hi => by
    have := hc i k z hi
    unfold load1 cellsAt at this
    rw [h5, osel_some, h6, osel_some, nth_eq] at this
    exact this
  have key : ∀ Cs, Rvs P σ cs Cs → w.rangeAt g 0 Cs → ∃ Ds, Rvs P (env0 P) (((k0, z0) :: l').map fun y => AV.int y.1 y.2) Ds ∧ (∀ u ∈ Ds, u.oneCell' = true) ∧ w.rangeAt g 0 Ds := by
    intro Cs hC hr
    refine ⟨((k0, z0) :: l').map fun y => Value.int y.1 y.2, ?_, fun u hu => ?_, fun j v hv => ?_⟩
    · clear hcs hc hg h h0 hgl hx h2
      generalize (k0, z0) :: l' = m
      induction m with
      | nil => exact Rvs_nil.2 rfl
      | cons a m ih => exact Rvs_cons.2 ⟨_, _, rfl, by simp only [Rv], ih⟩
    · obtain ⟨y, _, rfl⟩ := List.mem_map.1 hu
      rfl
    · rw [List.getElem?_map, Option.map_eq_some_iff] at hv
      obtain ⟨⟨k, z⟩, hkz, rfl⟩ := hv
      have h10 := hcs j k z hkz
      obtain ⟨V, hV, hVV⟩ := hC.get h10
      simp only [Rv] at hVV
      rw [← hVV]
      exact hr j V hV
  refine ⟨h1, by simpa using h8, ?_⟩
  cases bl with
  | cells ds o s =>
    simp only [cellsOfB, Option.some.injEq] at h6
    subst h6
    obtain ⟨Cs, q1, _, q3, _⟩ := h9
    exact key Cs q1 q3
  | ro ds =>
    simp only [cellsOfB, Option.some.injEq] at h6
    subst h6
    obtain ⟨Cs, q1, _, q3⟩ := h9
    exact key Cs q1 q3
  | _ => cases h6

/-- what a run from nothing leaves as it was -/
theorem ext_of_start {l : List (Nat × List AV)} {σ' : Env} {S' : St} {w' : World} (hR : Rep P σ S w) (h : Ext P (env0 P) (stL P l) w σ' S' w') : Ext P σ S w σ S w' := by
  have hk : ∀ r, r < w.heap.size → w'.heap[r]? = w.heap[r]? := fun r hr => h.keep r hr (ownL r)
  refine ⟨⟨fun b bl hb => ?_, hR.lt, hR.fresh, hR.glob, hR.inj⟩, fun _ _ => rfl, Nat.le_refl _, fun r hr _ => hk r hr, fun _ ho => .inl ho, h.size, h.os, h.tape, h.output, fun _ _ hb => hb⟩
  obtain ⟨L, q1, q2, q3⟩ := hR.blk b bl hb
  exact ⟨L, q1, Nat.lt_of_lt_of_le q2 h.size, q3.frame (fun _ _ x => x) (hk _ q2)⟩

theorem faked_of_good {fns : T AFn} {id nt : Nat} {res : List RV} {c : AC} {Fn : Func} {t : List (Nat × List (IntKind × Int))} {l : List (Nat × List AV)} (hFn : P.funcs[id]? = some Fn) (hc : cFn P Fn = some ⟨nt, res, c⟩) (hl : l = t.map fun x => (x.1, x.2.map fun y => AV.int y.1 y.2)) (hg : ∀ x ∈ t, x.1 < P.globals.size ∧ x.2 ≠ [])
    (h : Good P c ⟨.e, false⟩ (stL P l) fun o A S => retB res o A S = some true) : Faked P fns id (fakeFn (allCells t)) := by
  obtain ⟨C, c', rs, hbody, hname, hC, hrs, heq⟩ := cFn_some hc
  cases heq
  refine ⟨rfl, ⟨Fn, C, hFn, hbody, hname⟩, fun n S S' v hrun σ w fv hf hR => ?_⟩
  obtain ⟨hloads, hS', hv⟩ := fake_says hrun
  subst hS'; subst hv
  have hT : Tabs P l w := by rw [hl]; exact tabs_of_rep hR hg hloads
  simp only [Rv] at hf
  obtain ⟨A, B, rfl, hA, hB⟩ := hf
  have hA := Rvs_nil.1 hA
  have hB := Rvs_nil.1 hB
  subst hA; subst hB
  rw [run_invoke_func hFn hbody hname]
  show CallsIn Fence.wide 0 P id ⟨[] ++ ([] ++ [])⟩ w _
  refine callsIn_of_wp_marks hFn hbody trivial ?_
  obtain ⟨hfr, hsz⟩ := args_frame (P := P) (σ := env0 P) (args := []) (Args := []) (Rvs_nil.2 rfl) (nt := Fn.ntmps) (Nat.zero_le _)
  rw [← Fw_none]
  refine h none 0 Fn.ntmps C hC (fun _ => rfl) w.heap.size (env0 P) _ w _ hsz Df.nil (Nat.le_refl _) hfr (repL hT) ?_
  intro o A' S2 σ' a' w' hret hinr hsz' hdf hfr' hext
  obtain ⟨hoo, hres⟩ := retB_true hret
  obtain ⟨_, rks, hd, hnd, hmk⟩ := hdf
  have fin : ∀ w'', Ext P (env0 P) (stL P l) w σ' S2 w'' → ∃ V, (Go.results Fn a'.tmps).run P w'' = .ok V w'' ∧ ∃ σ', Rv P σ' (.bool true) V ∧ Ext P σ S' w σ' S' w'' := fun w'' hx => by
    obtain ⟨Vs, h8, h9⟩ := results_sound hx.rep hfr' hrs hres
    refine ⟨if h : Vs.toArray.size = 1 then Vs.toArray[0] else .tuple Vs.toArray, ?_, σ, ?_, ext_of_start hR hx⟩
    · show ((do let vs ← Fn.results.mapM (resOf a'.tmps); pure (if h : vs.size = 1 then vs[0] else .tuple vs) : Sem Value)).run P w'' = _
      rw [Array.mapM_eq_mapM_toList]
      simp only [Sem.run_bind, Sem.run_map, h8, Result.andThen_ok, Sem.run_pure]
    · have := oneOf_sound h9
      simp only [oneOf, Rv] at this
      rw [this]
      simp only [Rv]
  rcases hoo with rfl | rfl
  · show LeavesInM Fence.wide 0 P Fn a'.tmps _ a'.defers .returning w'
    rw [hd]
    exact leaves rks w' hnd hmk hext fin
  · show LeavesInM Fence.wide 0 P Fn a'.tmps _ a'.defers .returning w'
    rw [hd]
    exact leaves rks w' hnd hmk hext fin

/-- the table of functions, some of them known by other means -/
theorem known_table2 {l : List (Nat × AFn)} (hmix : P.follows .mixedOrders = true) (hl : ∀ p ∈ l, Row P p ∨ Faked P (table l) p.1 p.2) : Known P (table l) :=
  ⟨asked P, bits_sound P, fun id fn h => by
    rcases hl _ (table_mem h) with ⟨Fn, h1, h2⟩ | h1
    · exact .inl ⟨Fn, h1, h2⟩
    · exact .inr h1, fun call hcall => drawn_sound (asked P) (bits_sound P) hmix call hcall⟩
end Go.Ev

namespace Go.Ev
variable {P : Program} {σ : Env} {S : St} {w : World}

/-! ## Arguments: blocks that are only read -/
def NoOwn (S : St) : Prop := ∀ b bl, S.h.get b = some bl → ¬ isOwn bl
def envAdd (σ : Env) (b : Nat) (L : Loc) : Env := fun c => if c = b then some L else σ c

theorem env_le (hR : Rep P σ S w) (L : Loc) : ∀ b M, σ b = some M → envAdd σ S.nx L b = some M := fun b M h => by
  have := hR.below h
  unfold envAdd
  rw [if_neg (by omega)]
  exact h

/-- what is known of a state that an argument was added to -/
structure Added (P : Program) (σ : Env) (S : St) (w : World) (σ' : Env) (S' : St) : Prop where
  rep : Rep P σ' S' w
  no : NoOwn S'
  same : Same S S'
  fresh : Fresh S'
  le : ∀ b L, σ b = some L → σ' b = some L
theorem Added.refl (hR : Rep P σ S w) (hn : NoOwn S) (hf : Fresh S) : Added P σ S w σ S := ⟨hR, hn, Same.refl S, hf, fun _ _ h => h⟩
theorem Added.trans {σ' σ'' : Env} {S' S'' : St} (h : Added P σ S w σ' S') (h' : Added P σ' S' w σ'' S'') : Added P σ S w σ'' S'' := ⟨h'.rep, h'.no, h.same.trans h'.same, h'.fresh, fun b L hb => h'.le b L (h.le b L hb)⟩

theorem added_ro (hR : Rep P σ S w) (hn : NoOwn S) (hf : Fresh S) (hG : P.globals.size ≤ S.nx) {r d : Nat} {k : IntKind} {zs : List Int} (hr : r < w.heap.size) (hc : ∀ i z, zs[i]? = some z → w.cell? ⟨r, d + i, none⟩ = some (.int k z)) :
    Added P σ S w (envAdd σ S.nx ⟨r, d, 0⟩) ⟨S.h.set S.nx (some (.ro (zs.map (AV.int k)))), S.nx + 1⟩ := by
  have hle := env_le hR ⟨r, d, 0⟩
  refine ⟨⟨fun b bl hb => ?_, fun b bl hb => ?_, fun b hb => ?_, fun g hg => ?_, fun b b' bl bl' L L' hb _ ho => ?_⟩, fun b bl hb => ?_, Same.alloc S _, (frs_alloc S _).1 hf, hle⟩
  · simp only at hb
    rw [T.get_set] at hb
    split at hb
    · rename_i e
      subst e
      cases hb
      refine ⟨⟨r, d, 0⟩, by unfold envAdd; rw [if_pos rfl], hr, zs.map (Value.int k), ?_, fun u hu => ?_, fun j v hv => ?_⟩
      · clear hc
        induction zs with
        | nil => exact Rvs_nil.2 rfl
        | cons z zs ih => exact Rvs_cons.2 ⟨_, _, rfl, by simp only [Rv], ih⟩
      · obtain ⟨z, _, rfl⟩ := List.mem_map.1 hu
        rfl
      · rw [List.getElem?_map, Option.map_eq_some_iff] at hv
        obtain ⟨z, hz, rfl⟩ := hv
        exact hc j z hz
    · obtain ⟨L, h1, h2, h3⟩ := hR.blk b bl hb
      exact ⟨L, hle b L h1, h2, h3.frame hle rfl⟩
  · simp only at hb
    rw [T.get_set] at hb
    split at hb
    · rename_i e; subst e; simp
    · have := hR.lt b bl hb; simp only; omega
  · simp only at hb
    unfold envAdd
    rw [if_neg (by omega)]
    exact hR.fresh b (by omega)
  · unfold envAdd
    rw [if_neg (by omega)]
    exact hR.glob g hg
  · simp only at hb
    rw [T.get_set] at hb
    split at hb
    · cases hb; exact ho.elim
    · exact absurd ho (hn b bl hb)
  · simp only at hb
    rw [T.get_set] at hb
    split at hb
    · cases hb; exact fun h => h
    · exact hn b bl hb

/-- a slice of integers as an argument -/
theorem arg_ints {H : Type} {enc : TypeId × Value → H} {t e : TypeId} {k : IntKind} {base : Nat} {spare : Nat → Bool} {held : Bool} {fuel : Nat} {v : Value} {x : DataW H × List MemPlace} (hR : Rep P σ S w) (hn : NoOwn S) (hf : Fresh S) (hG : P.globals.size ≤ S.nx)
    (ht : P.underlying t = some (.slice e)) (he : P.underlying e = some (.int k)) (hc : P.cellsOf e = 1) (h : DataW.trod enc P w base spare held fuel t [v] = some x) :
    ∃ σ' S' av zs, Added P σ S w σ' S' ∧ Rv P σ' av v ∧ IsSl k S' av zs ∧ S.nx ≤ S'.nx ∧ ∀ z ∈ zs, (Lit.int k z).wf = true := by
  rcases ChangeShapes.open_ints ht he hc h with ⟨hcs, _⟩ | ⟨a, len, cap, zs, hcs, hb, hlen, hmax, hz, _, hcell, hwf⟩
  · cases hcs
    exact ⟨σ, S, .nilsl, [], Added.refl hR hn hf, by simp only [Rv], .inl ⟨rfl, .inl rfl⟩, Nat.le_refl _, fun z hz => (by cases hz)⟩
  · cases hcs
    rcases Nat.eq_zero_or_pos len with h0 | hp
    · subst h0
      exact ⟨σ, S, .emp, [], Added.refl hR hn hf, by simp only [Rv]; exact ⟨a, cap, rfl⟩, .inl ⟨rfl, .inr rfl⟩, Nat.le_refl _, fun z hz => (by cases hz)⟩
    · have hzl : len ≤ zs.length := by rw [hz]; split <;> omega
      have c0 := hcell 0 (by omega)
      have hspot : a.spot = none := by
        unfold World.cell? at c0
        rw [show (a.add 0) = a from rfl] at c0
        split at c0
        · by_cases hs : a.spot.isSome
          · rw [if_pos hs] at c0; cases c0
          · simpa using hs
        · cases c0
      have hadd : ∀ i, a.add i = ⟨a.block, a.off + i, none⟩ := fun i => by
        unfold Addr.add
        split
        · rename_i h; subst h; cases a; simp_all
        · rfl
      have hblk : a.block < w.heap.size := by
        unfold World.cell? at c0
        rw [show (a.add 0).block = a.block from rfl] at c0
        cases hh : w.heap[a.block]? with
        | none => rw [hh] at c0; cases c0
        | some o => exact (Array.getElem?_eq_some_iff.1 hh).1
      have hlt : (zs.take len).length = len := by rw [List.length_take]; omega
      have hc' : ∀ i z, (zs.take len)[i]? = some z → w.cell? ⟨a.block, a.off + i, none⟩ = some (.int k z) := fun i z hi => by
        have hil : i < len := by have := (List.getElem?_eq_some_iff.1 hi).1; omega
        rw [List.getElem?_take_of_lt hil] at hi
        have := hcell i (by omega)
        rw [hadd, List.getD_eq_getElem?_getD, hi] at this
        exact this
      refine ⟨_, _, .sl S.nx 0 len cap false, zs.take len, added_ro hR hn hf hG hblk hc', ?_, .inr ⟨S.nx, 0, cap, false, (zs.take len).map (AV.int k), by rw [hlt], by omega, by simp, ?_, fun i z hi => ?_⟩, by simp, fun z hz => hwf z (List.mem_of_mem_take hz)⟩
      · simp only [Rv]
        refine ⟨⟨a.block, a.off, 0⟩, by unfold envAdd; rw [if_pos rfl], ?_⟩
        cases a
        simp_all
      · unfold cellsAt
        simp only
        rw [T.get_set, if_pos rfl]
        rfl
      · rw [Nat.zero_add, List.getElem?_map, hi]; rfl

theorem own_no (hn : NoOwn S) (r : Nat) : ¬ Own σ S r := fun ⟨b, bl, _, h1, h2, _⟩ => hn b bl h1 h2

/-- A CALL whose run gives a bool, with arguments that are only read. -/
theorem calls_wpf {fns : T AFn} (hK : Known P fns) {id : Nat} {b : Bool} {Fn : Func} (hFn : P.funcs[id]? = some Fn) (hb : Fn.body.isSome = true) (hnm : (Fn.name == "runtime.NumGoroutine") = false) {avs : List AV} {Args : List Value} {Q : St → Prop}
    (h : wpf fns (.fn id [] []) avs S fun r S' => r = .bool b ∧ Q S') (hargs : Rvs P σ avs Args) (hR : Rep P σ S w) (hn : NoOwn S) :
    Calls P id ⟨Args⟩ w fun e w' => e = .returned (.bool b) ∧ Kept w w' := by
  obtain ⟨n, v, S', hrun0, hv, _⟩ := h
  subst hv
  have hs := ev_sound hK n _ _ _ _ _ hrun0 σ w (.func (.func id) ⟨[]⟩ ⟨[]⟩) Args (by simp only [Rv]; exact ⟨[], [], rfl, Rvs_nil.2 rfl, Rvs_nil.2 rfl⟩) hargs hR
  have hnm' : ¬ Fn.name = "runtime.NumGoroutine" := by simpa using hnm
  obtain ⟨C, hC⟩ := Option.isSome_iff_exists.1 hb
  have hrun : ((do let d ← Deferred.ofValue (.func (.func id) ⟨[]⟩ ⟨[]⟩) ⟨Args⟩; invoke d.target d.args : Sem Next)).run P w = .ok (.enter id ⟨Args⟩) w := by
    simp only [Deferred.ofValue, Sem.run_bind, Sem.run_pure, Result.andThen_ok, invoke, callFunc, run_program, hFn]
    simp [hC, hnm']
  rw [hrun] at hs
  have hs : CallsIn Fence.wide 0 P id ⟨Args⟩ w _ := hs
  refine (callsIn_wide.1 hs).mono fun e w' h => ?_
  cases e with
  | returned V =>
    obtain ⟨σ', h1, h2⟩ := h
    simp only [Rv] at h1
    subst h1
    exact ⟨rfl, h2.kept (own_no hn)⟩
  | _ => exact h.elim

/-- the state with the tables alone -/
theorem noOwn_L {l : List (Nat × List AV)} : NoOwn (stL P l) := fun b bl h ho => by
  obtain ⟨cs, _, rfl⟩ := tabsH_get h
  exact ho.elim
theorem fresh_L {l : List (Nat × List AV)} (hl : ∀ x ∈ l, x.1 < P.globals.size) : Fresh (stL P l) := fun b hb => by
  cases h : (stL P l).h.get b with
  | none => rfl
  | some bl =>
    obtain ⟨cs, h1, _⟩ := tabsH_get h
    have h2 := hl _ h1
    simp only [stL] at hb
    simp only at h2
    omega
end Go.Ev

namespace Go.Ev
variable {P : Program} {σ : Env} {S : St} {w : World}

/-! ## Arguments of any plain data: nested structs and slices, laid as blocks that are only read -/
theorem added_row (hR : Rep P σ S w) (hn : NoOwn S) (hf : Fresh S) (hG : P.globals.size ≤ S.nx) {r d : Nat} {cs : List AV} {Cs : List Value} (hr : r < w.heap.size) (hc : Rvs P σ cs Cs) (h1 : ∀ u ∈ Cs, u.oneCell' = true) (hw : w.rangeAt r d Cs) :
    Added P σ S w (envAdd σ S.nx ⟨r, d, 0⟩) ⟨S.h.set S.nx (some (.ro cs)), S.nx + 1⟩ := by
  have hle := env_le hR ⟨r, d, 0⟩
  refine ⟨⟨fun b bl hb => ?_, fun b bl hb => ?_, fun b hb => ?_, fun g hg => ?_, fun b b' bl bl' L L' hb _ ho => ?_⟩, fun b bl hb => ?_, Same.alloc S _, (frs_alloc S _).1 hf, hle⟩
  · simp only at hb
    rw [T.get_set] at hb
    split at hb
    · rename_i e
      subst e
      cases hb
      exact ⟨⟨r, d, 0⟩, by unfold envAdd; rw [if_pos rfl], hr, Cs, hc.mono hle, h1, hw⟩
    · obtain ⟨L, h1, h2, h3⟩ := hR.blk b bl hb
      exact ⟨L, hle b L h1, h2, h3.frame hle rfl⟩
  · simp only at hb
    rw [T.get_set] at hb
    split at hb
    · rename_i e; subst e; simp
    · have := hR.lt b bl hb; simp only; omega
  · simp only at hb
    unfold envAdd
    rw [if_neg (by omega)]
    exact hR.fresh b (by omega)
  · unfold envAdd
    rw [if_neg (by omega)]
    exact hR.glob g hg
  · simp only at hb
    rw [T.get_set] at hb
    split at hb
    · cases hb; exact ho.elim
    · exact absurd ho (hn b bl hb)
  · simp only at hb
    rw [T.get_set] at hb
    split at hb
    · cases hb; exact fun h => h
    · exact hn b bl hb

/-- cells of a type can be laid; E says what they hold -/
def Lays (P : Program) (t : TypeId) {α : Type} (E : St → List AV → α → Prop) : Prop :=
  ∀ (H : Type) (enc : TypeId × Value → H) (σ : Env) (S : St) (w : World) (base : Nat) (spare : Nat → Bool) (held : Bool) (fuel : Nat) (cs : List Value) (x : DataW H × List MemPlace), Rep P σ S w → NoOwn S → Fresh S → P.globals.size ≤ S.nx → DataW.trod enc P w base spare held fuel t cs = some x → (∀ n ∈ DataW.weights P t x.1, n ≤ 140737488355328) →
    ∃ σ' S' avs a, Added P σ S w σ' S' ∧ Rvs P σ' avs cs ∧ (∀ u ∈ cs, u.oneCell' = true) ∧ E S' avs a ∧ S.nx ≤ S'.nx
/-- what is said of cells stays -/
def Firm {α : Type} (E : St → List AV → α → Prop) : Prop := ∀ {S S' : St} {avs : List AV} {a : α}, E S avs a → Same S S' → E S' avs a

def IntE (k : IntKind) (_ : St) (avs : List AV) (z : Int) : Prop := avs = [.int k z] ∧ (Lit.int k z).wf = true
theorem firm_int {k : IntKind} : Firm (IntE k) := fun h _ => h
theorem lays_int {t : TypeId} {k : IntKind} (ht : P.underlying t = some (.int k)) : Lays P t (IntE k) := by
  intro H enc σ S w base spare held fuel cs x hR hn hf hG h hW
  obtain ⟨n, rfl, _, hw⟩ := DataW.trod_int ht h
  exact ⟨σ, S, [.int k n], n, Added.refl hR hn hf, Rvs_cons.2 ⟨_, _, rfl, by simp only [Rv], Rvs_nil.2 rfl⟩, fun u hu => by simp at hu; subst hu; rfl, ⟨rfl, hw⟩, Nat.le_refl _⟩
def BoolE (_ : St) (avs : List AV) (b : Bool) : Prop := avs = [.bool b]
theorem firm_bool : Firm BoolE := fun h _ => h
theorem lays_bool {t : TypeId} (ht : P.underlying t = some .bool) : Lays P t BoolE := by
  intro H enc σ S w base spare held fuel cs x hR hn hf hG h hW
  obtain ⟨n, rfl, _⟩ := DataW.trod_bool ht h
  exact ⟨σ, S, [.bool n], n, Added.refl hR hn hf, Rvs_cons.2 ⟨_, _, rfl, by simp only [Rv], Rvs_nil.2 rfl⟩, fun u hu => by simp at hu; subst hu; rfl, rfl, Nat.le_refl _⟩
def StrE (_ : St) (avs : List AV) (s : List Nat) : Prop := avs = [.str s] ∧ Bytes s ∧ s.length ≤ maxLen
theorem firm_str : Firm StrE := fun h _ => h
theorem lays_str {t : TypeId} (ht : P.underlying t = some .string) : Lays P t StrE := by
  intro H enc σ S w base spare held fuel cs x hR hn hf hG h hW
  obtain ⟨s, rfl, _, hl⟩ := DataW.trod_string ht h
  obtain ⟨h1, h2⟩ := mkStr_bytes s
  refine ⟨σ, S, [.str (s.data.toList.map UInt8.toNat)], _, Added.refl hR hn hf, Rvs_cons.2 ⟨_, _, rfl, ?_, Rvs_nil.2 rfl⟩, fun u hu => by simp at hu; subst hu; rfl, ⟨rfl, h2, ?_⟩, Nat.le_refl _⟩
  · simp only [Rv]
    exact ⟨by rw [h1], h2⟩
  · rw [List.length_map]
    exact hl

theorem weights_mem {H : Type} {e : TypeId} {d : DataW H} {n : Nat} : ∀ {l : List (DataW H)}, d ∈ l → n ∈ DataW.weights P e d → n ∈ DataW.weightsAll P e l
  | [], h, _ => by cases h
  | x :: r, h, hn => by
    show n ∈ DataW.weights P e x ++ DataW.weightsAll P e r
    rcases List.mem_cons.1 h with rfl | h
    · exact List.mem_append_left _ hn
    · exact List.mem_append_right _ (weights_mem h hn)
theorem weights_each {H : Type} {n : Nat} : ∀ {ts : List TypeId} {l : List (DataW H)} {i : Nat} {t : TypeId} {d : DataW H}, ts[i]? = some t → l[i]? = some d → n ∈ DataW.weights P t d → n ∈ DataW.weightsEach P ts l
  | [], _, _, _, _, h, _, _ => by simp at h
  | _ :: _, [], _, _, _, _, h, _ => by simp at h
  | u :: ts, x :: r, 0, t, d, h1, h2, hn => by
    simp at h1 h2
    subst h1
    subst h2
    exact List.mem_append_left _ hn
  | u :: ts, x :: r, i + 1, t, d, h1, h2, hn => by
    show n ∈ DataW.weights P u x ++ DataW.weightsEach P ts r
    exact List.mem_append_right _ (weights_each (by simpa using h1) (by simpa using h2) hn)
theorem weights_slice {H : Type} {t e : TypeId} {xs ys : List (DataW H)} (ht : P.underlying t = some (.slice e)) : DataW.weights P t (.slice xs ys) = (xs.length + ys.length) * P.bytesOf e :: (DataW.weightsAll P e xs ++ DataW.weightsAll P e ys) := by
  unfold DataW.weights
  rw [ht]
theorem weights_agg {H : Type} {t : TypeId} {fs : Array Field} {xs : List (DataW H)} (ht : P.underlying t = some (.struct fs)) : DataW.weights P t (.agg xs) = DataW.weightsEach P (fs.toList.map (·.type)) xs := by
  unfold DataW.weights
  rw [ht]
/-- a slice of elements of k cells each -/
def SlOf (k : Nat) {α : Type} (E : St → List AV → α → Prop) (S : St) (avs : List AV) (l : List α) : Prop :=
  ∃ av, avs = [av] ∧ l.length * (8 * k) ≤ 140737488355328 ∧ ((l = [] ∧ (av = .nilsl ∨ av = .emp)) ∨ ∃ (b cap : Nat) (css : List (List AV)), av = .sl b 0 l.length cap false ∧ l.length ≤ cap ∧ b < S.nx ∧ S.h.get b = some (.ro css.flatten) ∧ css.length = l.length ∧ ∀ (i : Nat) (cs : List AV) (a : α), css[i]? = some cs → l[i]? = some a → cs.length = k ∧ E S cs a)
theorem firm_sl {k : Nat} {α : Type} {E : St → List AV → α → Prop} (hE : Firm E) : Firm (SlOf k E) := by
  rintro S S' avs l ⟨av, rfl, hL, h | ⟨b, cap, css, h1, h2, h3, h4, h5, h6⟩⟩ hs
  · exact ⟨av, rfl, hL, .inl h⟩
  · exact ⟨av, rfl, hL, .inr ⟨b, cap, css, h1, h2, Nat.lt_of_lt_of_le h3 hs.1, (hs.2 b h3).trans h4, h5, fun i cs a hi ha => ⟨(h6 i cs a hi ha).1, hE (h6 i cs a hi ha).2 hs⟩⟩⟩

theorem cellsQ {a : Addr} {n base : Nat} {cs : List Value} (h : w.cells? base a n = some cs) : cs.length = n ∧ ∀ i, i < n → w.cell? (a.add i) = cs[i]? := by
  unfold World.cells? at h
  split at h
  · refine ⟨by simpa using mapM_some_length h, fun i hi => ?_⟩
    exact mapM_some_get h i i (by simp [hi])
  · cases h

theorem lays_elems {e : TypeId} {k : Nat} {α : Type} {E : St → List AV → α → Prop} (hE : Lays P e E) (hF : Firm E) (hk : 0 < k) {H : Type} {enc : TypeId × Value → H} {base : Nat} {spare : Nat → Bool} {held : Bool} {fuel : Nat} {a : Addr} (hspot : a.spot = none)
    (hR : Rep P σ S w) (hn : NoOwn S) (hf : Fresh S) (hG : P.globals.size ≤ S.nx) : ∀ {m : Nat}, (∀ i, i < m → ∃ x, (w.cells? base (a.add (i * k)) k).bind (DataW.trod enc P w base spare held fuel e) = some x ∧ ∀ n ∈ DataW.weights P e x.1, n ≤ 140737488355328) →
    ∃ (σ' : Env) (S' : St) (css : List (List AV)), ∃ l : List α, ∃ Cs : List Value, Added P σ S w σ' S' ∧ S.nx ≤ S'.nx ∧ css.length = m ∧ l.length = m ∧ (∀ (i : Nat) (cs : List AV) (a : α), css[i]? = some cs → l[i]? = some a → cs.length = k ∧ E S' cs a) ∧ Rvs P σ' css.flatten Cs ∧ (∀ u ∈ Cs, u.oneCell' = true) ∧ Cs.length = m * k ∧ w.rangeAt a.block a.off Cs
  | 0, _ => ⟨σ, S, [], [], [], Added.refl hR hn hf, Nat.le_refl _, rfl, rfl, fun i cs a hi => (by simp at hi), Rvs_nil.2 rfl, fun u hu => (by cases hu), by simp, fun j v hv => (by simp at hv)⟩
  | m + 1, h => by
    obtain ⟨σ1, S1, css, l, Cs, hA, hn1, hcl, hll, hel, hrv, hone, hlen, hrange⟩ := lays_elems hE hF hk hspot hR hn hf hG (m := m) fun i hi => h i (by omega)
    obtain ⟨x, hx, hxW⟩ := h m (by omega)
    obtain ⟨cs, hcs, hx⟩ := Option.bind_eq_some_iff.1 hx
    obtain ⟨σ2, S2, avs, y, hA2, hrv2, hone2, hE2, hn2⟩ := hE H enc σ1 S1 w base spare held fuel cs x hA.rep hA.no hA.fresh (Nat.le_trans hG hn1) hx hxW
    obtain ⟨hcl2, hcell⟩ := cellsQ hcs
    have hal : avs.length = k := by rw [← hrv2.length]; exact hcl2
    refine ⟨σ2, S2, css ++ [avs], l ++ [y], Cs ++ cs, hA.trans hA2, Nat.le_trans hn1 hn2, by simp [hcl], by simp [hll], ?_, ?_, ?_, ?_, ?_⟩
    · intro i cs' a' hi ha
      rw [List.getElem?_append] at hi ha
      rw [hcl] at hi
      rw [hll] at ha
      split at hi
      · rename_i hlt
        rw [if_pos hlt] at ha
        exact ⟨(hel i cs' a' hi ha).1, hF (hel i cs' a' hi ha).2 hA2.same⟩
      · rename_i hlt
        rw [if_neg hlt] at ha
        have him : i - m = 0 := by
          rcases Nat.eq_zero_or_pos (i - m) with h | h
          · exact h
          · obtain ⟨q, hq⟩ := Nat.exists_eq_succ_of_ne_zero (Nat.pos_iff_ne_zero.1 h)
            rw [hq] at hi; simp at hi
        rw [him] at hi ha
        simp at hi ha
        subst hi; subst ha
        exact ⟨hal, hE2⟩
    · rw [List.flatten_append]
      simp only [List.flatten_cons, List.flatten_nil, List.append_nil]
      exact (hrv.mono hA2.le).append hrv2
    · intro u hu
      rcases List.mem_append.1 hu with hu | hu
      · exact hone u hu
      · exact hone2 u hu
    · rw [List.length_append, hlen, hcl2, Nat.succ_mul]
    · intro j v hv
      rw [List.getElem?_append] at hv
      split at hv
      · exact hrange j v hv
      · rename_i hlt
        have hj : j - Cs.length < k := by
          have := (List.getElem?_eq_some_iff.1 hv).1
          omega
        have := hcell (j - Cs.length) hj
        rw [hv] at this
        rw [← this]
        congr 1
        have hadd : ∀ i, a.add i = ⟨a.block, a.off + i, none⟩ := fun i => by
          unfold Addr.add
          split
          · rename_i h; subst h; cases a; simp_all
          · rfl
        have hadd2 : ∀ (x y : Nat), Addr.add ⟨a.block, x, none⟩ y = ⟨a.block, x + y, none⟩ := fun x y => by
          unfold Addr.add
          split
          · rename_i h; rw [h, Nat.add_zero]
          · rfl
        rw [hadd, hadd2, hlen]
        congr 1
        rw [hlen] at hlt
        omega

theorem lays_slice {t e : TypeId} {k : Nat} {α : Type} {E : St → List AV → α → Prop} (ht : P.underlying t = some (.slice e)) (hc : P.cellsOf e = k) (hk : 0 < k) (hby : 8 * k ≤ P.bytesOf e) (hE : Lays P e E) (hF : Firm E) : Lays P t (SlOf k E) := by
  intro H enc σ S w base spare held fuel cs x hR hn hf hG h hW
  rcases DataW.trod_slice ht h with ⟨rfl, _⟩ | ⟨a, len, cap, elems, rest, n, rfl, rfl, hxe, _, hlc, _, hlen, hel, _⟩
  · exact ⟨σ, S, [.nilsl], [], Added.refl hR hn hf, Rvs_cons.2 ⟨_, _, rfl, by simp only [Rv], Rvs_nil.2 rfl⟩, fun u hu => by simp at hu; subst hu; rfl, ⟨_, rfl, by simp, .inl ⟨rfl, .inl rfl⟩⟩, Nat.le_refl _⟩
  · rw [hc] at hel
    subst hxe
    have hW : ∀ n ∈ DataW.weights P t (.slice (elems.map (·.1)) (rest.map (·.1))), n ≤ 140737488355328 := hW
    rw [weights_slice ht] at hW
    have hlw : len * (8 * k) ≤ 140737488355328 := by
      have h1 := hW _ (List.mem_cons_self ..)
      rw [List.length_map, hlen, Nat.add_mul] at h1
      exact Nat.le_trans (Nat.mul_le_mul_left len hby) (by omega)
    rcases Nat.eq_zero_or_pos len with h0 | hp
    · subst h0
      exact ⟨σ, S, [.emp], [], Added.refl hR hn hf, Rvs_cons.2 ⟨_, _, rfl, by simp only [Rv]; exact ⟨a, cap, rfl⟩, Rvs_nil.2 rfl⟩, fun u hu => by simp at hu; subst hu; rfl, ⟨_, rfl, by simp, .inl ⟨rfl, .inr rfl⟩⟩, Nat.le_refl _⟩
    · have hget : ∀ i, i < len → ∃ x, (w.cells? base (a.add (i * k)) k).bind (DataW.trod enc P w base spare held n e) = some x ∧ ∀ n ∈ DataW.weights P e x.1, n ≤ 140737488355328 := fun i hi => by
        rw [hel i hi]
        exact ⟨elems[i]'(by omega), List.getElem?_eq_getElem (by omega), fun n hn => hW n (List.mem_cons_of_mem _ (List.mem_append_left _ (weights_mem (List.mem_map_of_mem (List.getElem_mem _)) hn)))⟩
      obtain ⟨x0, hx0, _⟩ := hget 0 hp
      obtain ⟨cs0, hcs0, _⟩ := Option.bind_eq_some_iff.1 hx0
      obtain ⟨hl0, hc0⟩ := cellsQ hcs0
      have c0 := hc0 0 hk
      rw [List.getElem?_eq_getElem (by omega), Nat.zero_mul] at c0
      have e0 : (a.add 0).add 0 = a := rfl
      rw [e0] at c0
      have hblk : a.block < w.heap.size ∧ a.spot = none := by
        unfold World.cell? at c0
        cases hh : w.heap[a.block]? with
        | none => rw [hh] at c0; cases c0
        | some o =>
          refine ⟨(Array.getElem?_eq_some_iff.1 hh).1, ?_⟩
          rw [hh] at c0
          cases o with
          | cells c t fr =>
            simp only at c0
            by_cases hs : a.spot.isSome
            · rw [if_pos hs] at c0; cases c0
            · simpa using hs
          | _ => cases c0
      obtain ⟨σ1, S1, css, l, Cs, hA, hn1, hcl, hll, hE1, hrv, hone, hCl, hrange⟩ := lays_elems hE hF hk hblk.2 hR hn hf hG hget
      have hA2 := added_row hA.rep hA.no hA.fresh (Nat.le_trans hG hn1) hblk.1 hrv hone hrange
      refine ⟨_, _, [.sl S1.nx 0 len cap false], l, hA.trans hA2, Rvs_cons.2 ⟨_, _, rfl, ?_, Rvs_nil.2 rfl⟩, fun u hu => by simp at hu; subst hu; rfl, ⟨_, rfl, by rw [hll]; exact hlw, .inr ⟨S1.nx, cap, css, by rw [hll], by omega, by simp, ?_, by rw [hcl, hll], fun i cs a' hi ha => ⟨(hE1 i cs a' hi ha).1, hF (hE1 i cs a' hi ha).2 hA2.same⟩⟩⟩, by simp only; omega⟩
      · simp only [Rv]
        refine ⟨⟨a.block, a.off, 0⟩, by unfold envAdd; rw [if_pos rfl], ?_⟩
        have := hblk.2
        cases a
        simp_all
      · simp only
        rw [T.get_set, if_pos rfl]

/-- fields that stand one behind the other -/
def NoE (_ : St) (avs : List AV) (_ : Unit) : Prop := avs = []
def ConsE {α β : Type} (E : St → List AV → α → Prop) (R : St → List AV → β → Prop) (S : St) (avs : List AV) (x : α × β) : Prop := ∃ u v, avs = u ++ v ∧ E S u x.1 ∧ R S v x.2
theorem firm_no : Firm NoE := fun h _ => h
theorem firm_cons {α β : Type} {E : St → List AV → α → Prop} {R : St → List AV → β → Prop} (h1 : Firm E) (h2 : Firm R) : Firm (ConsE E R) := fun ⟨u, v, e, a, b⟩ hs => ⟨u, v, e, h1 a hs, h2 b hs⟩
/-- fields of types, from a place on -/
def LaysF (P : Program) (ts : List TypeId) {α : Type} (E : St → List AV → α → Prop) : Prop :=
  ∀ (H : Type) (enc : TypeId × Value → H) (σ : Env) (S : St) (w : World) (base : Nat) (spare : Nat → Bool) (held : Bool) (fuel off : Nat) (cs : List Value), Rep P σ S w → NoOwn S → Fresh S → P.globals.size ≤ S.nx → cs.length = off + (ts.map P.cellsOf).sum →
    (∀ (i : Nat) t, ts[i]? = some t → ∃ x, DataW.trod enc P w base spare held fuel t ((cs.drop (off + ((ts.take i).map P.cellsOf).sum)).take (P.cellsOf t)) = some x ∧ ∀ n ∈ DataW.weights P t x.1, n ≤ 140737488355328) →
    ∃ σ' S' avs a, Added P σ S w σ' S' ∧ Rvs P σ' avs (cs.drop off) ∧ (∀ u ∈ cs.drop off, u.oneCell' = true) ∧ E S' avs a ∧ S.nx ≤ S'.nx
theorem laysF_nil : LaysF P [] NoE := by
  intro H enc σ S w base spare held fuel off cs hR hn hf hG hl h
  have : cs.drop off = [] := List.drop_of_length_le (by simp at hl; omega)
  rw [this]
  exact ⟨σ, S, [], (), Added.refl hR hn hf, Rvs_nil.2 rfl, fun u hu => (by cases hu), rfl, Nat.le_refl _⟩
theorem laysF_cons {t : TypeId} {ts : List TypeId} {α β : Type} {E : St → List AV → α → Prop} {R : St → List AV → β → Prop} (h1 : Lays P t E) (f1 : Firm E) (h2 : LaysF P ts R) : LaysF P (t :: ts) (ConsE E R) := by
  intro H enc σ S w base spare held fuel off cs hR hn hf hG hl h
  rw [List.map_cons, List.sum_cons] at hl
  obtain ⟨x, hx, hxW⟩ := h 0 t rfl
  simp only [List.take_zero, List.map_nil, List.sum_nil, Nat.add_zero] at hx
  obtain ⟨σ1, S1, avs, a, hA, hrv, hone, hE, hn1⟩ := h1 H enc σ S w base spare held fuel _ x hR hn hf hG hx hxW
  obtain ⟨σ2, S2, avs2, b, hA2, hrv2, hone2, hE2, hn2⟩ := h2 H enc σ1 S1 w base spare held fuel (off + P.cellsOf t) cs hA.rep hA.no hA.fresh (Nat.le_trans hG hn1) (by omega) (fun i u hi => by
    obtain ⟨y, hy, hyW⟩ := h (i + 1) u (by simpa using hi)
    rw [List.take_succ_cons, List.map_cons, List.sum_cons, ← Nat.add_assoc] at hy
    exact ⟨y, hy, hyW⟩)
  have hsplit : cs.drop off = (cs.drop off).take (P.cellsOf t) ++ cs.drop (off + P.cellsOf t) := by
    rw [← List.drop_drop, List.take_append_drop]
  refine ⟨σ2, S2, avs ++ avs2, (a, b), hA.trans hA2, ?_, ?_, ⟨avs, avs2, rfl, f1 hE hA2.same, hE2⟩, Nat.le_trans hn1 hn2⟩
  · rw [hsplit]; exact (hrv.mono hA2.le).append hrv2
  · rw [hsplit]
    intro u hu
    rcases List.mem_append.1 hu with hu | hu
    · exact hone u hu
    · exact hone2 u hu
/-- a struct whose fields lie one behind the other -/
theorem lays_struct {t : TypeId} {fs : Array Field} {ts : List TypeId} {α : Type} {E : St → List AV → α → Prop} (ht : P.underlying t = some (.struct fs)) (hts : fs.toList.map (·.type) = ts) (hoff : ∀ i f, fs[i]? = some f → f.offset = ((ts.take i).map P.cellsOf).sum) (hc : P.cellsOf t = (ts.map P.cellsOf).sum) (hE : LaysF P ts E) : Lays P t E := by
  intro H enc σ S w base spare held fuel cs x hR hn hf hG h hW
  obtain ⟨xs, n, rfl, hxe, hl, hxs, hfs⟩ := DataW.trod_struct ht h
  subst hxe
  have hW : ∀ n ∈ DataW.weights P t (.agg (xs.map (·.1))), n ≤ 140737488355328 := hW
  rw [weights_agg ht] at hW
  obtain ⟨σ1, S1, avs, a, hA, hrv, hone, hE1, hn1⟩ := hE H enc σ S w base spare held n 0 cs hR hn hf hG (by omega) (fun i u hi => by
    have hi0 := hi
    rw [← hts, List.getElem?_map, Option.map_eq_some_iff] at hi
    obtain ⟨f, hf1, rfl⟩ := hi
    have hf2 : fs[i]? = some f := by simpa using hf1
    have h3 := hfs i f hf2
    rw [hoff i f hf2] at h3
    have hlt : i < xs.length := by
      rw [hxs]
      exact (Array.getElem?_eq_some_iff.1 hf2).1
    exact ⟨xs[i], by rw [Nat.zero_add, h3, List.getElem?_eq_getElem hlt], fun n hn => hW n (weights_each (i := i) (by rw [hts]; exact hi0) (by rw [List.getElem?_map, List.getElem?_eq_getElem hlt]; rfl) hn)⟩)
  exact ⟨σ1, S1, avs, a, hA, by simpa using hrv, by simpa using hone, hE1, hn1⟩
end Go.Ev

namespace Go.Ev

/-! ## Slices of elements of several cells, by what they hold -/
def IsSlG (k : Nat) {α : Type} (E : St → List AV → α → Prop) (S : St) (v : AV) (l : List α) : Prop :=
  (l = [] ∧ (v = .nilsl ∨ v = .emp)) ∨ ∃ b off cap o cs, v = .sl b off l.length cap o ∧ l.length ≤ cap ∧ b < S.nx ∧ cellsAt S.h b = some cs ∧ ∀ (i : Nat) (a : α), l[i]? = some a → ∃ e : List AV, e.length = k ∧ (∀ (j : Nat) (x : AV), e[j]? = some x → cs[off + i * k + j]? = some x) ∧ E S e a
theorem IsSlG.same {k : Nat} {α : Type} {E : St → List AV → α → Prop} (hE : Firm E) {S S' : St} {v : AV} {l : List α} (h : IsSlG k E S v l) (hs : Same S S') : IsSlG k E S' v l := by
  rcases h with h | ⟨b, off, cap, o, cs, h1, hc, h2, h3, h4⟩
  · exact .inl h
  · refine .inr ⟨b, off, cap, o, cs, h1, hc, Nat.lt_of_lt_of_le h2 hs.1, by rw [cellsAt_same hs h2]; exact h3, fun i a hi => ?_⟩
    obtain ⟨e, e1, e2, e3⟩ := h4 i a hi
    exact ⟨e, e1, e2, hE e3 hs⟩
theorem flat_get {k : Nat} : ∀ {css : List (List AV)} {i j : Nat} {cs : List AV} {x : AV}, (∀ (i : Nat) (cs : List AV), css[i]? = some cs → cs.length = k) → css[i]? = some cs → cs[j]? = some x → css.flatten[i * k + j]? = some x
  | [], i, j, cs, x, _, hi, _ => by simp at hi
  | c :: css, 0, j, cs, x, _, hi, hj => by
    simp at hi
    subst hi
    rw [Nat.zero_mul, Nat.zero_add, List.flatten_cons, List.getElem?_append_left (List.getElem?_eq_some_iff.1 hj).1]
    exact hj
  | c :: css, i + 1, j, cs, x, hk, hi, hj => by
    have hc := hk 0 c rfl
    rw [List.flatten_cons, Nat.succ_mul, List.getElem?_append_right (by omega), hc, show i * k + k + j - k = i * k + j by omega]
    exact flat_get (fun i cs h => hk (i + 1) cs (by simpa using h)) (by simpa using hi) hj
theorem SlOf.is {k : Nat} {α : Type} {E : St → List AV → α → Prop} {S : St} {avs : List AV} {l : List α} (h : SlOf k E S avs l) : ∃ v, avs = [v] ∧ IsSlG k E S v l := by
  obtain ⟨v, rfl, _, h | ⟨b, cap, css, h1, h2, h3, h4, h5, h6⟩⟩ := h
  · exact ⟨v, rfl, .inl h⟩
  · refine ⟨v, rfl, .inr ⟨b, 0, cap, false, css.flatten, h1, h2, h3, ?_, fun i a hi => ?_⟩⟩
    · unfold cellsAt; rw [h4]; rfl
    · have hil : i < css.length := by have := (List.getElem?_eq_some_iff.1 hi).1; omega
      obtain ⟨e1, e2⟩ := h6 i css[i] a (List.getElem?_eq_getElem hil) hi
      refine ⟨css[i], e1, fun j x hj => ?_, e2⟩
      rw [Nat.zero_add]
      exact flat_get (fun i' cs' hi' => (h6 i' cs' (l[i']'(by have := (List.getElem?_eq_some_iff.1 hi').1; omega)) hi' (List.getElem?_eq_getElem _)).1) (List.getElem?_eq_getElem hil) hj
section
variable {k : Nat} {α : Type} {E : St → List AV → α → Prop} {S : St} {v : AV} {l : List α}
theorem IsSlG.len (h : IsSlG k E S v l) : lenSlV v = some (.int .i64 ((l.length : Nat) : Int)) := by
  rcases h with ⟨rfl, rfl | rfl⟩ | ⟨b, off, cap, o, cs, rfl, _⟩ <;> rfl
/-- the place of an element of k cells -/
def elemG (k : Nat) (v : AV) (i : Nat) : AV :=
  match v with
  | .sl b off _ _ _ => .ptr b (off + i * k)
  | _ => .undef
theorem IsSlG.iaddr (h : IsSlG k E S v l) {i : Nat} (hi : i < l.length) : iaddrV (.slice k) v i = some (elemG k v i) := by
  rcases h with ⟨rfl, _⟩ | ⟨b, off, cap, o, cs, rfl, _⟩
  · simp at hi
  · simp only [iaddrV, elemG]
    have : Nat.blt i l.length = true := Nat.ble_eq_true_of_le hi
    rw [this, bsel_true]
/-- an element: its cells, how the whole and a part of it are loaded -/
theorem IsSlG.get (h : IsSlG k E S v l) {i : Nat} {a : α} (hi : l[i]? = some a) : ∃ (e : List AV) (b p : Nat), elemG k v i = .ptr b p ∧ b < S.nx ∧ e.length = k ∧ E S e a ∧ ∃ cs, cellsAt S.h b = some cs ∧ ∀ (j : Nat) (x : AV), e[j]? = some x → cs[p + j]? = some x := by
  rcases h with ⟨rfl, _⟩ | ⟨b, off, cap, o, cs, rfl, hc, hb, hcs, hel⟩
  · simp at hi
  · obtain ⟨e, e1, e2, e3⟩ := hel i a hi
    exact ⟨e, b, off + i * k, rfl, hb, e1, e3, cs, hcs, e2⟩
end
end Go.Ev
