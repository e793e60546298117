import Derived.Test.YtoojnpjgnnpllaaEv7
import Derived.ChangeSlices
import Derived.ChangeArms
import Derived.DataReads
namespace Go.Ev
def rO (c d : dV) : Prop := ∀ f args S r, c f args S = some r → d f args S = some r
structure Le (a b : Evs) : Prop where
 code : ∀ c A S r, a.code c A S = some r → b.code c A S = some r
 call : rO a.call b.call
theorem dK {α β : Type} {x y : Option α} {f g : α → Option β} {b : β} (h : aU x f = some b) (hx : ∀ a, x = some a → y = some a) (hf : ∀ a, f a = some b → g a = some b) : aU y g = some b := by
 obtain ⟨a, h1, h2⟩ := aD h
 rw [hx a h1]
 exact hf a h2
theorem aId {c d : dV} (h : rO c d) {v : AV} {tbl : List (Nat × Nat × Option (Bool × Nat))} {args : List AV} {S : St} {r : AV × St} (hv : aDp v tbl args c S = some r) : aDp v tbl args d S = some r := by
 unfold aDp at hv ⊢
 split at hv
 ·refine dK hv (fun _ h => h) fun a ha => ?_
  unfold aFT at ha ⊢
  split at ha
  ·exact h _ _ _ _ ha
  ·unfold aDX at ha ⊢
   split at ha
   ·exact dK ha (fun _ h => h) fun _ hb => h _ _ _ _ hb
   ·cases ha
 ·cases hv
theorem aFb {c d : dV} (h : rO c d) {x : XOp} {F : Fr} {S : St} {r : AV × St} (hv : xP x c F S = some r) : xP x d F S = some r := by
 cases x with
 | call f args => exact h _ _ _ _ hv
 | inv tbl recv args => exact aId h hv
 | _ => exact hv
theorem aHl {c d : dV} (h : rO c d) {o : AO} {F : Fr} {S : St} {r : Fr × St} (hv : aCg o c F S = some r) : aCg o d F S = some r := by
 unfold aCg at hv ⊢
 rw [cC] at hv ⊢
 split at hv
 ·rename_i hw
  rw [if_pos hw]
  cases ho : o.op with
  | q q => rw [ho] at hv; exact hv
  | a a => rw [ho] at hv; exact hv
  | x x =>
   rw [ho] at hv
   exact dK (show aU (xP x c F S) _ = some r from hv) (fun _ hx => aFb h hx) fun _ hb => hb
 ·rename_i hw
  rw [if_neg hw]
  exact hv
theorem vI {c d : dV} (h : rO c d) : ∀ {l : List AO} {F : Fr} {S : St} {r : Fr × St}, sI l c F S = some r → sI l d F S = some r
 | [], F, S, r, hv => hv
 | o :: l, F, S, r, hv => dK (show aU (aCg o c F S) (fun r => sI l c r.1 r.2) = some r from hv) (fun _ hx => aHl h hx) fun _ hb => vI h hb
theorem aJX {c d : dV} (h : rO c d) {o : AO} {i base : Nat} {D : DS} {r : DS} (hv : pG o i base c D = some r) : pG o i base d D = some r := by
 unfold pG at hv ⊢
 rw [cC] at hv ⊢
 split at hv
 ·rename_i hw
  rw [if_pos hw]
  cases ho : o.op with
  | q q => rw [ho] at hv; exact hv
  | a a => rw [ho] at hv; exact hv
  | x x =>
   rw [ho] at hv
   obtain ⟨h1, h2⟩ := bN (show bO (iK D.hs o.mask) _ none = some r from hv)
   show bO (iK D.hs o.mask) _ none = some r
   rw [h1, aG]
   exact dK h2 (fun _ hx => aFb h hx) fun _ hb => hb
 ·rename_i hw
  rw [if_neg hw]
  exact hv
theorem pX {c d : dV} (h : rO c d) : ∀ {l : List AO} {i base : Nat} {D r : DS}, sM l i base c D = some r → sM l i base d D = some r
 | [], _, _, _, _, hv => hv
 | o :: l, i, base, D, r, hv => dK (show aU (pG o i base c D) (fun D' => sM l (i + 1) base c D') = some r from hv) (fun _ hx => aJX h hx) fun _ hb => pX h hb
theorem aEb {c d : dV} (h : rO c d) {l : List AO} {F : Fr} {S : St} {r : Fr × St} (hv : uQ l c F S = some r) : uQ l d F S = some r :=
 dK (show aU _ _ = some r from hv) (fun _ hx => pX h hx) fun _ hb => hb
theorem aFf {a b : Evs} (h : Le a b) {c : AC} {A : bT} {S : St} {r : Out × bT × St} (hv : aGq c a A S = some r) : aGq c b A S = some r := by
 cases c with
 | skip => exact hv
 | seq x y =>
  refine dK (show aU (a.code x A S) (pU y a) = some r from hv) (fun _ hx => h.code _ _ _ _ hx) fun q hq => ?_
  unfold pU at hq ⊢
  split at hq
  ·exact h.code _ _ _ _ hq
  ·exact hq
 | cond x y z =>
  have hv : aAD (x.val A.F) y z a A S = some r := hv
  show aAD (x.val A.F) y z b A S = some r
  unfold aAD at hv ⊢
  split at hv
  ·exact h.code _ _ _ _ hv
  ·cases hv
 | block id x => exact dK (show aU (a.code x A S) (pH id) = some r from hv) (fun _ hx => h.code _ _ _ _ hx) fun _ hq => hq
 | loop x =>
  refine dK (show aU (a.code x A S) (pU (.loop x) a) = some r from hv) (fun _ hx => h.code _ _ _ _ hx) fun q hq => ?_
  unfold pU at hq ⊢
  split at hq
  ·exact h.code _ _ _ _ hq
  ·exact hq
 | exit id => exact hv
 | ret => exact hv
 | reg ops => exact dK (show aU (sI ops a.call A.F S) _ = some r from hv) (fun _ hx => vI h.call hx) fun _ hq => hq
 | drw ops => exact dK (show aU (uQ ops a.call A.F S) _ = some r from hv) (fun _ hx => aEb h.call hx) fun _ hq => hq
 | rng f ps as bd =>
  have hv : aKk f ps as bd a A S = some r := hv
  show aKk f ps as bd b A S = some r
  unfold aKk at hv ⊢
  cases hi : A.inr with
  | true => rw [hi, aG] at hv; cases hv
  | false =>
   rw [hi, aM] at hv
   rw [aM]
   obtain ⟨h1, h2⟩ := bN hv
   rw [h1, aG]
   refine dK h2 (fun _ hx => h.call _ _ _ _ hx) fun q hq => dK hq (fun _ hx => hx) fun bl hbl => ?_
   unfold aD1 at hbl ⊢
   split at hbl
   ·split at hbl
    ·cases hbl
    ·exact dK hbl (fun _ hx => hx) fun _ hc => h.code _ _ _ _ hc
   ·cases hbl
 | dfr ops f args => exact hv
theorem aFt {a b : Evs} (h : Le a b) {bl : AB} {l : Nat} {args : List AV} {S : St} {r : AV × St} (hv : zK bl l args a S = some r) : zK bl l args b S = some r := by
 unfold zK at hv ⊢
 split at hv
 ·refine dK hv (fun _ hx => hx) fun F hF => dK hF (fun _ hx => h.code _ _ _ _ hx) fun q hq => ?_
  unfold aD4 at hq ⊢
  split at hq
  ·refine dK hq (fun _ hx => hx) fun bl hbl => ?_
   unfold tZ at hbl ⊢
   split at hbl
   ·exact dK (show aU (a.code _ _ _) _ = some r from hbl) (fun _ hx => h.code _ _ _ _ hx) fun _ hq => hq
   ·cases hbl
  ·cases hq
 ·cases hv
theorem aFa {fns : T cA} {a b : Evs} (h : Le a b) : rO (tI fns a) (tI fns b) := by
 intro f args S r hv
 unfold tI at hv ⊢
 split at hv
 ·refine dK hv (fun _ hx => hx) fun fn hfn => ?_
  unfold tF at hfn ⊢
  obtain ⟨h1, h2⟩ := bN hfn
  rw [h1, aG]
  exact dK h2 (fun _ hx => h.code _ _ _ _ hx) fun _ hq => hq
 ·exact dK hv (fun _ hx => hx) fun bl hbl => aFt h hbl
 ·cases hv
theorem rM (fns : T cA) : ∀ n, Le (ev fns n) (ev fns (n + 1))
 | 0 => ⟨fun c A S r (h : none = some r) => (by cases h), fun f args S r (h : none = some r) => (by cases h)⟩
 | n + 1 => ⟨fun _ _ _ _ h => aFf (rM fns n) h, aFa (rM fns n)⟩
theorem mL (fns : T cA) {n m : Nat} (h : n ≤ m) : Le (ev fns n) (ev fns m) := by
 induction h with
 | refl => exact ⟨fun _ _ _ _ h => h, fun _ _ _ _ h => h⟩
 | step _ ih => exact ⟨fun c A S r h => (rM fns _).code _ _ _ _ (ih.code _ _ _ _ h), fun f args S r h => (rM fns _).call _ _ _ _ (ih.call _ _ _ _ h)⟩
end Go.Ev
namespace Go.Ev
abbrev oq (d : Nat) (q : wN) : AO := ⟨some d, .q q, none, 0⟩
abbrev om (d m : Nat) (q : wN) : AO := ⟨some d, .q q, none, m⟩
abbrev og (d s : Nat) (b : Bool) (m : Nat) (q : wN) : AO := ⟨some d, .q q, some (s, b), m⟩
abbrev oc (d f : Nat) (l : List cH) (m : Nat) : AO := ⟨some d, .x (.call (.c (.fn f [] [])) l), none, m⟩
abbrev mt (d i : Nat) : AO := ⟨some d, .q (.mv (.t i)), none, 0⟩
abbrev ci (n : Int) : cH := .c (.int .i64 n)
abbrev bi (o : BinOp) (x y : cH) : wN := .bin o (.p .int) x y
abbrev ld (i : Nat) : wN := .ld false 1 (.t i)
variable {fns : T cA}
def lZ (fns : T cA) (c : AC) (A : bT) (S : St) (Q : Out → bT → St → Prop) : Prop := ∃ n o A' S', (ev fns n).code c A S = some (o, A', S') ∧ Q o A' S'
def iQ (fns : T cA) (f : AV) (args : List AV) (S : St) (Q : AV → St → Prop) : Prop := ∃ n v S', (ev fns n).call f args S = some (v, S') ∧ Q v S'
def qX (fns : T cA) (ops : List AO) (F : Fr) (S : St) (Q : Fr → St → Prop) : Prop := ∃ n F' S', sI ops (ev fns n).call F S = some (F', S') ∧ Q F' S'
theorem bP {c : AC} {A : bT} {S : St} {Q R : Out → bT → St → Prop} (h : lZ fns c A S Q) (hq : ∀ o A S, Q o A S → R o A S) : lZ fns c A S R := by
 obtain ⟨n, o, A', S', h1, h2⟩ := h
 exact ⟨n, o, A', S', h1, hq _ _ _ h2⟩
theorem aW {f : AV} {args : List AV} {S : St} {Q R : AV → St → Prop} (h : iQ fns f args S Q) (hq : ∀ v S, Q v S → R v S) : iQ fns f args S R := by
 obtain ⟨n, v, S', h1, h2⟩ := h
 exact ⟨n, v, S', h1, hq _ _ h2⟩
theorem aFy {ops : List AO} {F : Fr} {S : St} {Q R : Fr → St → Prop} (h : qX fns ops F S Q) (hq : ∀ F S, Q F S → R F S) : qX fns ops F S R := by
 obtain ⟨n, F', S', h1, h2⟩ := h
 exact ⟨n, F', S', h1, hq _ _ h2⟩
theorem aO {A : bT} {S : St} {Q : Out → bT → St → Prop} (h : Q .normal A S) : lZ fns .skip A S Q := ⟨1, _, _, _, rfl, h⟩
theorem cL {id : Nat} {A : bT} {S : St} {Q : Out → bT → St → Prop} (h : Q (.exit id) A S) : lZ fns (.exit id) A S Q := ⟨1, _, _, _, rfl, h⟩
theorem aY {A : bT} {S : St} {Q : Out → bT → St → Prop} (h : Q .ret A S) : lZ fns .ret A S Q := ⟨1, _, _, _, rfl, h⟩
def aB7 (fns : T cA) (y : AC) (Q : Out → bT → St → Prop) : Out → bT → St → Prop
 | .normal, A, S => lZ fns y A S Q
 | o, A, S => Q o A S
theorem aE {x y : AC} {A : bT} {S : St} {Q : Out → bT → St → Prop} (h : lZ fns x A S (aB7 fns y Q)) : lZ fns (.seq x y) A S Q := by
 obtain ⟨n, o, A1, S1, h1, h2⟩ := h
 cases o with
 | normal =>
  obtain ⟨m, o, A2, S2, h3, h4⟩ := h2
  refine ⟨max n m + 1, o, A2, S2, ?_, h4⟩
  show aU ((ev fns (max n m)).code x A S) (pU y (ev fns (max n m))) = _
  rw [(mL fns (Nat.le_max_left n m)).code _ _ _ _ h1, aF]
  exact (mL fns (Nat.le_max_right n m)).code _ _ _ _ h3
 | ret =>
  refine ⟨n + 1, .ret, A1, S1, ?_, h2⟩
  show aU ((ev fns n).code x A S) (pU y (ev fns n)) = _
  rw [h1]; rfl
 | exit i =>
  refine ⟨n + 1, .exit i, A1, S1, ?_, h2⟩
  show aU ((ev fns n).code x A S) (pU y (ev fns n)) = _
  rw [h1]; rfl
theorem aI7 {c : cH} {x y : AC} {A : bT} {S : St} {Q : Out → bT → St → Prop} {t : Bool} (hc : c.val A.F = .bool t) (h : lZ fns (bO t x y) A S Q) : lZ fns (.cond c x y) A S Q := by
 obtain ⟨n, o, A1, S1, h1, h2⟩ := h
 refine ⟨n + 1, o, A1, S1, ?_, h2⟩
 show aAD (c.val A.F) x y (ev fns n) A S = _
 rw [hc]
 exact h1
theorem aGg {c : cH} {x y : AC} {A : bT} {S : St} {Q : Out → bT → St → Prop} {t : Bool} (hc : c.val A.F = .bool t) (h1 : t = true → lZ fns x A S Q) (h2 : t = false → lZ fns y A S Q) : lZ fns (.cond c x y) A S Q := by
 refine aI7 hc ?_
 cases t
 ·exact h2 rfl
 ·exact h1 rfl
def zE (id : Nat) (Q : Out → bT → St → Prop) : Out → bT → St → Prop
 | .exit i, A, S => if i = id then Q .normal A S else Q (.exit i) A S
 | o, A, S => Q o A S
theorem bE {id : Nat} {c : AC} {A : bT} {S : St} {Q : Out → bT → St → Prop} (h : lZ fns c A S (zE id Q)) : lZ fns (.block id c) A S Q := by
 obtain ⟨n, o, A1, S1, h1, h2⟩ := h
 cases o with
 | normal => exact ⟨n + 1, .normal, A1, S1, by show aU ((ev fns n).code c A S) (pH id) = _; rw [h1]; rfl, h2⟩
 | ret => exact ⟨n + 1, .ret, A1, S1, by show aU ((ev fns n).code c A S) (pH id) = _; rw [h1]; rfl, h2⟩
 | exit i =>
  by_cases hi : i = id
  ·subst hi
   have h2 : Q .normal A1 S1 := by simpa [zE] using h2
   exact ⟨n + 1, .normal, A1, S1, by show aU ((ev fns n).code c A S) (pH i) = _; rw [h1]; simp [aF, pH, cC, Nat.beq_eq], h2⟩
  ·have h2 : Q (.exit i) A1 S1 := by simpa [zE, hi] using h2
   exact ⟨n + 1, .exit i, A1, S1, by show aU ((ev fns n).code c A S) (pH id) = _; rw [h1]; simp [aF, pH, cC, Nat.beq_eq, hi], h2⟩
def aD6 (I : Nat → bT → St → Prop) (k : Nat) (Q : Out → bT → St → Prop) : Out → bT → St → Prop
 | .normal, A, S => ∃ k', k' < k ∧ I k' A S
 | o, A, S => Q o A S
theorem cS {c : AC} {Q : Out → bT → St → Prop} (I : Nat → bT → St → Prop) (h : ∀ k A S, I k A S → lZ fns c A S (aD6 I k Q)) : ∀ k A S, I k A S → lZ fns (.loop c) A S Q := by
 intro k
 induction k using Nat.strongRecOn with
 | _ k ih =>
  intro A S hI
  obtain ⟨n, o, A1, S1, h1, h2⟩ := h k A S hI
  cases o with
  | normal =>
   obtain ⟨k', hk, hI'⟩ := h2
   obtain ⟨m, o, A2, S2, h3, h4⟩ := ih k' hk A1 S1 hI'
   refine ⟨max n m + 1, o, A2, S2, ?_, h4⟩
   show aU ((ev fns (max n m)).code c A S) (pU (.loop c) (ev fns (max n m))) = _
   rw [(mL fns (Nat.le_max_left n m)).code _ _ _ _ h1, aF]
   exact (mL fns (Nat.le_max_right n m)).code _ _ _ _ h3
  | ret =>
   refine ⟨n + 1, .ret, A1, S1, ?_, h2⟩
   show aU ((ev fns n).code c A S) (pU (.loop c) (ev fns n)) = _
   rw [h1]; rfl
  | exit i =>
   refine ⟨n + 1, .exit i, A1, S1, ?_, h2⟩
   show aU ((ev fns n).code c A S) (pU (.loop c) (ev fns n)) = _
   rw [h1]; rfl
theorem aR {ops : List AO} {A : bT} {S : St} {Q : Out → bT → St → Prop} (h : qX fns ops A.F S fun F' S' => Q .normal ⟨F', A.inr⟩ S') : lZ fns (.reg ops) A S Q := by
 obtain ⟨n, F', S', h1, h2⟩ := h
 refine ⟨n + 1, .normal, ⟨F', A.inr⟩, S', ?_, h2⟩
 show aU (sI ops (ev fns n).call A.F S) _ = _
 rw [h1]; rfl
def aMF (res : List RV) (Q : AV → St → Prop) : Out → bT → St → Prop
 | .exit _, _, _ => False
 | _, A, S => ∃ vs, results res A.F S.h = some vs ∧ Q (oneOf vs) S
theorem cW {id nt : Nat} {res : List RV} {body : AC} {first cap args : List AV} {S : St} {Q : AV → St → Prop} (hfn : fns.get id = some ⟨nt, res, body⟩) (hn : (first ++ (args ++ cap)).length ≤ nt)
  (h : lZ fns body ⟨oV (first ++ (args ++ cap)) 0 .e, false⟩ S (aMF res Q)) : iQ fns (.fn id first cap) args S Q := by
 obtain ⟨n, o, A', S', h1, h2⟩ := h
 have key : ∀ (_ : ∃ vs, results res A'.F S'.h = some vs ∧ Q (oneOf vs) S') (_ : aDq ⟨nt, res, body⟩ (o, A', S') = aU (results res A'.F S'.h) fun vs => some (oneOf vs, S')), iQ fns (.fn id first cap) args S Q := by
  rintro ⟨vs, h3, h4⟩ h5
  refine ⟨n + 1, oneOf vs, S', ?_, h4⟩
  show aU (fns.get id) (fun fn => tF fn (uT first (uT args cap)) (ev fns n) S) = _
  rw [hfn, aF]
  unfold tF
  rw [fB, fB, dR, Nat.ble_eq_true_of_le hn, aG, h1, aF, h5, h3]
  rfl
 cases o with
 | normal => exact key h2 rfl
 | ret => exact key h2 rfl
 | exit i => exact h2.elim
theorem xK {F : Fr} {S : St} {Q : Fr → St → Prop} : qX fns [] F S Q ↔ Q F S :=
 ⟨fun ⟨_, _, _, h1, h2⟩ => by cases h1; exact h2, fun h => ⟨0, F, S, rfl, h⟩⟩
theorem aBt {o : AO} {l : List AO} {F F1 : Fr} {S S1 : St} {Q : Fr → St → Prop} (h : ∀ call, aCg o call F S = some (F1, S1)) (hl : qX fns l F1 S1 Q) : qX fns (o :: l) F S Q := by
 obtain ⟨n, F', S', h1, h2⟩ := hl
 refine ⟨n, F', S', ?_, h2⟩
 rw [fQ, h, aF]
 exact h1
theorem aJi {d : Option Nat} {q : wN} {m : Nat} {l : List AO} {F : Fr} {S : St} {Q : Fr → St → Prop} {v : AV} (h : gP q F S.h = some v) (hl : qX fns l (cG d F v) S Q) : qX fns (⟨d, .q q, none, m⟩ :: l) F S Q :=
 aBt (fun call => by show aU (gP q F S.h) _ = _; rw [h]; rfl) hl
theorem aMH {d : Option Nat} {a : tE} {m : Nat} {l : List AO} {F : Fr} {S : St} {Q : Fr → St → Prop} {v : AV} {bl : AB} (h : sN a F S.nx = some (v, bl)) (hl : qX fns l (cG d F v) ⟨S.h.set S.nx (some bl), S.nx + 1⟩ Q) : qX fns (⟨d, .a a, none, m⟩ :: l) F S Q :=
 aBt (fun call => by show aU (sN a F S.nx) _ = _; rw [h]; rfl) hl
theorem fZ {d : Option Nat} {x : XOp} {m : Nat} {l : List AO} {F : Fr} {S S1 : St} {Q : Fr → St → Prop} {v : AV} (h : ∀ call, xP x call F S = some (v, S1)) (hl : qX fns l (cG d F v) S1 Q) : qX fns (⟨d, .x x, none, m⟩ :: l) F S Q :=
 aBt (fun call => by show aU (xP x call F S) _ = _; rw [h]; rfl) hl
theorem bL {d : Option Nat} {f : cH} {args : List cH} {m : Nat} {l : List AO} {F : Fr} {S : St} {Q : Fr → St → Prop} (h : iQ fns (f.val F) (cT args F) S fun v S1 => qX fns l (cG d F v) S1 Q) : qX fns (⟨d, .x (.call f args), none, m⟩ :: l) F S Q := by
 obtain ⟨n, v, S1, h1, k, F', S', h2, h3⟩ := h
 refine ⟨max n k, F', S', ?_, h3⟩
 rw [fQ]
 have : aCg ⟨d, .x (.call f args), none, m⟩ (ev fns (max n k)).call F S = some (cG d F v, S1) := by
  show aU ((ev fns (max n k)).call (f.val F) (cT args F) S) _ = _
  rw [(mL fns (Nat.le_max_left n k)).call _ _ _ _ h1]; rfl
 rw [this, aF]
 exact vI (mL fns (Nat.le_max_right n k)).call h2
theorem iG (i : Nat) (F : Fr) : (cH.t i).val F = aC i F := rfl
theorem aEG (v : AV) (F : Fr) : (cH.c v).val F = v := rfl
theorem fX (F : Fr) (v : AV) : cG none F v = F := rfl
theorem bJ (i j : Nat) (F : Fr) (v : AV) : aC i (cG (some j) F v) = if i = j then v else aC i F := by
 show aC i (F.set j (some v)) = _
 unfold aC
 rw [T.get_set]
 split <;> rfl
end Go.Ev
namespace Go.Ev
variable {fns : T cA}
theorem aKo {tbl : List (Nat × Nat × Option (Bool × Nat))} {recv : cH} {args : List cH} {F : Fr} {t f : Nat} {v : AV} (hr : recv.val F = .iface t v) (hf : tT t tbl = some (f, none)) (call : dV) (S : St) : xP (.inv tbl recv args) call F S = xP (.call (.c (.fn f [v] [])) args) call F S := by
 show aDp (recv.val F) tbl (cT args F) call S = call (.fn f [v] []) (cT args F) S
 rw [hr]
 show aU (tT t tbl) (fun r => aFT r v (cT args F) call S) = _
 rw [hf, aF]
 rfl
end Go.Ev
namespace Go.Ev
def Same (S S' : St) : Prop := S.nx ≤ S'.nx ∧ ∀ b, b < S.nx → S'.h.get b = S.h.get b
theorem Same.refl (S : St) : Same S S := ⟨Nat.le_refl _, fun _ _ => rfl⟩
theorem Same.trans {S S' S'' : St} (h : Same S S') (h' : Same S' S'') : Same S S'' := ⟨Nat.le_trans h.1 h'.1, fun b hb => (h'.2 b (Nat.lt_of_lt_of_le hb h.1)).trans (h.2 b hb)⟩
theorem Same.alloc (S : St) (bl : AB) : Same S ⟨S.h.set S.nx (some bl), S.nx + 1⟩ := ⟨Nat.le_succ _, fun b hb => by simp only; rw [T.get_set, if_neg (by omega)]⟩
theorem Same.put {S S' : St} {b : Nat} (h : Same S S') (hb : S.nx ≤ b) (x : Option AB) : Same S ⟨S'.h.set b x, S'.nx⟩ := ⟨h.1, fun c hc => by simp only; rw [T.get_set, if_neg (by omega)]; exact h.2 c hc⟩
def bS (k : IntKind) (S : St) (v : AV) (l : List Int) : Prop :=
 (l = [] ∧ (v = .nilsl ∨ v = .emp)) ∨ ∃ b off cap o cs, v = .sl b off l.length cap o ∧ l.length ≤ cap ∧ b < S.nx ∧ cP S.h b = some cs ∧ ∀ i x, l[i]? = some x → cs[off + i]? = some (.int k x)
theorem rN {S S' : St} (h : Same S S') {b : Nat} (hb : b < S.nx) : cP S'.h b = cP S.h b := by unfold cP; rw [h.2 b hb]
theorem bS.same {k : IntKind} {S S' : St} {v : AV} {l : List Int} (h : bS k S v l) (hs : Same S S') : bS k S' v l := by
 rcases h with h | ⟨b, off, cap, o, cs, h1, hc, h2, h3, h4⟩
 ·exact .inl h
 ·exact .inr ⟨b, off, cap, o, cs, h1, hc, Nat.lt_of_lt_of_le h2 hs.1, by rw [rN hs h2]; exact h3, h4⟩
theorem bS.len {k : IntKind} {S : St} {v : AV} {l : List Int} (h : bS k S v l) : mB v = some (.int .i64 (.ofNat l.length)) := by
 rcases h with ⟨rfl, rfl | rfl⟩ | ⟨b, off, cap, o, cs, rfl, _⟩ <;> rfl
def aAt (v : AV) (i : Nat) : AV :=
 match v with
 | .sl b off _ _ _ => .ptr b (off + i * 1)
 | _ => .undef
theorem bS.iaddr {k : IntKind} {S : St} {v : AV} {l : List Int} (h : bS k S v l) {i : Nat} (hi : i < l.length) : eO (.slice 1) v i = some (aAt v i) := by
 rcases h with ⟨rfl, _⟩ | ⟨b, off, cap, o, cs, rfl, _⟩
 ·simp at hi
 ·simp only [eO, aAt]
  have : Nat.blt i l.length = true := Nat.ble_eq_true_of_le hi
  rw [this, aG]
theorem bS.ld {k : IntKind} {S : St} {v : AV} {l : List Int} (h : bS k S v l) {i : Nat} (hi : i < l.length) : fK (aAt v i) false 1 S.h = some (.int k (l.getD i 0)) := by
 rcases h with ⟨rfl, _⟩ | ⟨b, off, cap, o, cs, rfl, hc, hb, hcs, hel⟩
 ·simp at hi
 ·simp only [aAt, fK, oO, aM, mX, hcs, aF, pI, Nat.mul_one]
  rw [hel i l[i] (List.getElem?_eq_getElem hi)]
  simp [List.getD_eq_getElem?_getD, hi]
theorem aEe (e : rC) (k : IntKind) (a b : Int) : mW .add e (.int k a) (.int k b) = some (.int k (k.wrap (a + b))) := by
 show dN .add k a k b = _
 unfold dN
 rw [show fD .add = false from rfl, aM, gF, aG]
 show some (AV.int k (aI1 k a b)) = _
 rw [aED]
theorem aDP (e : rC) (k : IntKind) (a b : Int) : mW .sub e (.int k a) (.int k b) = some (.int k (k.wrap (a - b))) := by
 show dN .sub k a k b = _
 unfold dN
 rw [show fD .sub = false from rfl, aM, gF, aG]
 show some (AV.int k (aE8 k a b)) = _
 rw [xH]
theorem aD2 (e : rC) (k : IntKind) (a b : Int) : mW .mul e (.int k a) (.int k b) = some (.int k (k.wrap (a * b))) := by
 show dN .mul k a k b = _
 unfold dN
 rw [show fD .mul = false from rfl, aM, gF, aG]
 show some (AV.int k (aGL k a b)) = _
 rw [aBl]
theorem aD8 (e : rC) (k : IntKind) (a b : Int) : mW .lss e (.int k a) (.int k b) = some (.bool (decide (a < b))) := by
 show dN .lss k a k b = _
 unfold dN
 rw [show fD .lss = false from rfl, aM, gF, aG]
 show some (AV.bool (bO (ile b a) false true)) = _
 rw [nS, oM]
 congr 2
 rw [Bool.eq_iff_iff]; simp
theorem aDL (e : rC) (k : IntKind) (a b : Int) : mW .leq e (.int k a) (.int k b) = some (.bool (decide (a ≤ b))) := by
 show dN .leq k a k b = _
 unfold dN
 rw [show fD .leq = false from rfl, aM, gF, aG]
 show some (AV.bool (ile a b)) = _
 rw [nS]
theorem aEh (e : rC) (k : IntKind) (a b : Int) : mW .gtr e (.int k a) (.int k b) = some (.bool (decide (b < a))) := by
 show dN .gtr k a k b = _
 unfold dN
 rw [show fD .gtr = false from rfl, aM, gF, aG]
 show some (AV.bool (bO (ile a b) false true)) = _
 rw [nS, oM]
 congr 2
 rw [Bool.eq_iff_iff]; simp
theorem aDn (e : rC) (k : IntKind) (a b : Int) : mW .geq e (.int k a) (.int k b) = some (.bool (decide (b ≤ a))) := by
 show dN .geq k a k b = _
 unfold dN
 rw [show fD .geq = false from rfl, aM, gF, aG]
 show some (AV.bool (ile b a)) = _
 rw [nS]
theorem aAY (e : rC) (k : IntKind) (a b : Int) : mW .eql e (.int k a) (.int k b) = some (.bool (decide (a = b))) := by
 show dN .eql k a k b = _
 unfold dN
 rw [show fD .eql = false from rfl, aM, gF, aG]
 show some (AV.bool (ieq a b)) = _
 rw [lD]
 congr 2
theorem aEf (e : rC) (k : IntKind) (a b : Int) : mW .neq e (.int k a) (.int k b) = some (.bool (decide (a ≠ b))) := by
 show dN .neq k a k b = _
 unfold dN
 rw [show fD .neq = false from rfl, aM, gF, aG]
 show some (AV.bool (bO (ieq a b) false true)) = _
 rw [lD, oM]
 congr 2
 rw [Bool.eq_iff_iff]; simp
section
variable (F : Fr) (h : T AB)
theorem aF1 (x : cH) : gP (.mv x) F h = some (x.val F) := rfl
theorem aDQ (op : BinOp) (e : rC) (x y : cH) : gP (.bin op e x y) F h = mW op e (x.val F) (y.val F) := rfl
theorem aGu (op : UnOp) (x : cH) : gP (.un op x) F h = unV op (x.val F) := rfl
theorem zY (x : cH) : gP (.lenSl x) F h = mB (x.val F) := rfl
theorem yW (k : IxK) (x ix : cH) : gP (.iaddr k x ix) F h = aU (eF (ix.val F)) fun i => eO k (x.val F) i := rfl
theorem zR (agg : Bool) (n : Nat) (x : cH) : gP (.ld agg n x) F h = fK (x.val F) agg n h := rfl
theorem aB5 (k : aEH) (x : cH) : gP (.conv k x) F h = yE k (x.val F) h := rfl
theorem tW (x : cH) (i : Nat) : gP (.extract x i) F h = lS (x.val F) i := rfl
theorem aBF (c a b : cH) : gP (.pick c a b) F h = tC (c.val F) a b F := rfl
theorem aDV (agg : Bool) (off n : Nat) (x : cH) : gP (.fld agg off n x) F h = aGi (x.val F) agg off n := rfl
end
theorem aL (k : IntKind) (n : Nat) : eF (.int k (n : Int)) = some n := rfl
theorem aBp (k j : IntKind) (n : Int) (h : T AB) : yE (.int k) (.int j n) h = some (.int k (k.wrap n)) := by
 show some (AV.int k (aCX k n)) = _
 rw [pN]
end Go.Ev
namespace Go.Ev
variable {fns : T cA}
def kE {α : Type} (x : Option α) (Q : α → Prop) : Prop := ∃ a, x = some a ∧ Q a
theorem dJ {α : Type} (a : α) (Q : α → Prop) : kE (some a) Q = Q a := propext ⟨fun ⟨_, h1, h2⟩ => by cases h1; exact h2, fun h => ⟨a, rfl, h⟩⟩
theorem aGo {d : Option Nat} {q : wN} {m : Nat} {l : List AO} {F : Fr} {S : St} {Q : Fr → St → Prop} : qX fns (⟨d, .q q, none, m⟩ :: l) F S Q ↔ kE (gP q F S.h) fun v => qX fns l (cG d F v) S Q := by
 constructor
 ·rintro ⟨n, F', S', h1, h2⟩
  rw [fQ] at h1
  obtain ⟨r, h3, h4⟩ := aD h1
  obtain ⟨v, h5, h6⟩ := aD (show aU (gP q F S.h) (fun v => some (cG d F v, S)) = some r from h3)
  cases h6
  exact ⟨v, h5, n, F', S', h4, h2⟩
 ·rintro ⟨v, h1, h2⟩
  exact aJi h1 h2
theorem aAm {d : Option Nat} {a : tE} {m : Nat} {l : List AO} {F : Fr} {S : St} {Q : Fr → St → Prop} : qX fns (⟨d, .a a, none, m⟩ :: l) F S Q ↔ kE (sN a F S.nx) fun r => qX fns l (cG d F r.1) ⟨S.h.set S.nx (some r.2), S.nx + 1⟩ Q := by
 constructor
 ·rintro ⟨n, F', S', h1, h2⟩
  rw [fQ] at h1
  obtain ⟨r, h3, h4⟩ := aD h1
  obtain ⟨v, h5, h6⟩ := aD (show aU (sN a F S.nx) (fun r => some (cG d F r.1, (⟨S.h.set S.nx (some r.2), Nat.succ S.nx⟩ : St))) = some r from h3)
  cases h6
  exact ⟨v, h5, n, F', S', h4, h2⟩
 ·rintro ⟨⟨v, bl⟩, h1, h2⟩
  exact aMH h1 h2
def vT (fns : T cA) (ops : List AO) (i base : Nat) (D : DS) (Q : DS → Prop) : Prop := ∃ n D', sM ops i base (ev fns n).call D = some D' ∧ Q D'
theorem rT {ops : List AO} {A : bT} {S : St} {Q : Out → bT → St → Prop} (h : vT fns ops 0 S.nx ⟨A.F, ⟨S.h, S.nx + ops.length⟩, [], [], []⟩ fun D => fC S.h D.hs.reverse D.ls = true ∧ Q .normal ⟨D.F, A.inr⟩ ⟨(cE (2 ^ ops.length - 1) D.ps D.S.h).2, D.S.nx⟩) : lZ fns (.drw ops) A S Q := by
 obtain ⟨n, D, h1, h2, h3⟩ := h
 refine ⟨n + 1, .normal, ⟨D.F, A.inr⟩, ⟨(cE (2 ^ ops.length - 1) D.ps D.S.h).2, D.S.nx⟩, ?_, h3⟩
 show aU (aU (sM ops 0 S.nx (ev fns n).call ⟨A.F, ⟨S.h, S.nx + jM ops⟩, [], [], []⟩) fun D => xW S.h (jM ops) D) _ = _
 rw [dR, h1, aF]
 unfold xW
 rw [h2, aG]
 rfl
theorem jQ {i base : Nat} {D : DS} {Q : DS → Prop} : vT fns [] i base D Q ↔ Q D :=
 ⟨fun ⟨_, _, h1, h2⟩ => by cases h1; exact h2, fun h => ⟨0, D, rfl, h⟩⟩
theorem iR {d : Option Nat} {q : wN} {m i base : Nat} {l : List AO} {D : DS} {Q : DS → Prop} : vT fns (⟨d, .q q, none, m⟩ :: l) i base D Q ↔
  kE (gP q D.F D.S.h) fun v => vT fns l (i + 1) base ⟨cG d D.F v, D.S, D.ps, D.hs, bO (dG q) (⟨q, D.F, v, i, m⟩ :: D.ls) D.ls⟩ Q := by
 constructor
 ·rintro ⟨n, D', h1, h2⟩
  obtain ⟨r, h3, h4⟩ := aD (show aU (pG ⟨d, .q q, none, m⟩ i base (ev fns n).call D) (fun D' => sM l (i + 1) base (ev fns n).call D') = some D' from h1)
  obtain ⟨v, h5, h6⟩ := aD (show aU (gP q D.F D.S.h) (fun v => some (⟨cG d D.F v, D.S, D.ps, D.hs, bO (dG q) (⟨q, D.F, v, i, m⟩ :: D.ls) D.ls⟩ : DS)) = some r from h3)
  cases h6
  exact ⟨v, h5, n, D', h4, h2⟩
 ·rintro ⟨v, h1, n, D', h2, h3⟩
  refine ⟨n, D', ?_, h3⟩
  show aU (aU (gP q D.F D.S.h) _) _ = _
  rw [h1]
  exact h2
theorem aDr {d : Option Nat} {a : tE} {m i base : Nat} {l : List AO} {D : DS} {Q : DS → Prop} : vT fns (⟨d, .a a, none, m⟩ :: l) i base D Q ↔
  kE (sN a D.F (base + i)) fun r => vT fns l (i + 1) base ⟨cG d D.F r.1, D.S, ⟨i, base + i, r.2⟩ :: D.ps, D.hs, D.ls⟩ Q := by
 constructor
 ·rintro ⟨n, D', h1, h2⟩
  obtain ⟨r, h3, h4⟩ := aD (show aU (pG ⟨d, .a a, none, m⟩ i base (ev fns n).call D) (fun D' => sM l (i + 1) base (ev fns n).call D') = some D' from h1)
  obtain ⟨v, h5, h6⟩ := aD (show aU (sN a D.F (base + i)) (fun r => some (⟨cG d D.F r.1, D.S, ⟨i, base + i, r.2⟩ :: D.ps, D.hs, D.ls⟩ : DS)) = some r from h3)
  cases h6
  exact ⟨v, h5, n, D', h4, h2⟩
 ·rintro ⟨r, h1, n, D', h2, h3⟩
  refine ⟨n, D', ?_, h3⟩
  show aU (aU (sN a D.F (base + i)) _) _ = _
  rw [h1]
  exact h2
theorem kL {d : Option Nat} {x : XOp} {m i base : Nat} {l : List AO} {D : DS} {Q : DS → Prop} {v : AV} {S1 : St} (hl : iK D.hs m = true) (h : ∀ call, xP x call D.F ⟨(cE m D.ps D.S.h).2, D.S.nx⟩ = some (v, S1))
  (hq : vT fns l (i + 1) base ⟨cG d D.F v, S1, (cE m D.ps D.S.h).1, (i, m, S1.h) :: D.hs, D.ls⟩ Q) : vT fns (⟨d, .x x, none, m⟩ :: l) i base D Q := by
 obtain ⟨n, D', h2, h3⟩ := hq
 refine ⟨n, D', ?_, h3⟩
 show aU (bO (iK D.hs m) (aU (xP x (ev fns n).call D.F ⟨(cE m D.ps D.S.h).2, D.S.nx⟩) _) none) _ = _
 rw [hl, aG, h]
 exact h2
theorem aCn {d : Option Nat} {f : cH} {args : List cH} {m i base : Nat} {l : List AO} {D : DS} {Q : DS → Prop} (hl : iK D.hs m = true)
  (h : iQ fns (f.val D.F) (cT args D.F) ⟨(cE m D.ps D.S.h).2, D.S.nx⟩ fun v S1 => vT fns l (i + 1) base ⟨cG d D.F v, S1, (cE m D.ps D.S.h).1, (i, m, S1.h) :: D.hs, D.ls⟩ Q) : vT fns (⟨d, .x (.call f args), none, m⟩ :: l) i base D Q := by
 obtain ⟨n, v, S1, h1, k, D', h2, h3⟩ := h
 refine ⟨max n k, D', ?_, h3⟩
 show aU (bO (iK D.hs m) (aU ((ev fns (max n k)).call (f.val D.F) (cT args D.F) ⟨(cE m D.ps D.S.h).2, D.S.nx⟩) _) none) _ = _
 rw [hl, aG, (mL fns (Nat.le_max_left n k)).call _ _ _ _ h1]
 exact pX (mL fns (Nat.le_max_right n k)).call h2
theorem aJe {d : Option Nat} {op : AOp} {s : Nat} {b : Bool} {m i base : Nat} {l : List AO} {D : DS} {Q : DS → Prop} (hg : aC s D.F = .bool b) (hl : vT fns (⟨d, op, none, m⟩ :: l) i base D Q) : vT fns (⟨d, op, some (s, b), m⟩ :: l) i base D Q := by
 obtain ⟨n, D', h1, h2⟩ := hl
 refine ⟨n, D', ?_, h2⟩
 have : pG ⟨d, op, some (s, b), m⟩ i base (ev fns n).call D = pG ⟨d, op, none, m⟩ i base (ev fns n).call D := by
  unfold pG
  have e1 : dW (some (s, b)) D.F = true := by show isB (aC s D.F) b = true; rw [hg]; cases b <;> rfl
  have e2 : dW none D.F = true := rfl
  simp only [e1, e2]
  cases op <;> rfl
 show aU (pG ⟨d, op, some (s, b), m⟩ i base (ev fns n).call D) _ = _
 rw [this]
 exact h1
theorem eU (k : IntKind) (a : Int) : cN (.int k a) (.int k a) = true := by simp [cN, cC, gF, lD]
theorem aAk (a : Bool) : cN (.bool a) (.bool a) = true := by simp [cN, rR]
theorem aA9 (a b : Nat) : cN (.ptr a b) (.ptr a b) = true := by simp [cN, cC, Nat.beq_eq]
theorem mP (a b c d : Nat) (o : Bool) : cN (.sl a b c d o) (.sl a b c d o) = true := by simp [cN, Nat.beq_eq, rR]
theorem vX : cN .nilsl .nilsl = true := rfl
end Go.Ev
namespace Go.Ev
def yN (S : St) : Prop := ∀ b, S.nx ≤ b → S.h.get b = none
def Frs (S S' : St) : Prop := (yN S → yN S') ∧ S.nx ≤ S'.nx
theorem aH3 (S : St) (x : Option AB) : Frs S ⟨S.h.set S.nx x, S.nx + 1⟩ :=
 ⟨fun h c hc => by simp only at hc ⊢; rw [T.get_set, if_neg (by omega)]; exact h c (by omega), Nat.le_succ _⟩
end Go.Ev
namespace Go.Ev
variable {P : Program} {σ : Env} {S : St} {w : World}
def aD0 : List (Nat × Nat × IntKind × Int) → AC
 | [] => .seq (.reg [⟨some 0, .q (.mv (.c (.bool true))), none, 0⟩]) .ret
 | (g, j, k, z) :: l => .seq (.reg [⟨some 1, .q (.ld false 1 (.c (.ptr g j))), none, 0⟩, ⟨some 2, .q (.bin .eql (.p .int) (.t 1) (.c (.int k z))), none, 0⟩]) (.seq (.cond (.t 2) .skip (.exit 0)) (aD0 l))
def yZ (l : List (Nat × Nat × IntKind × Int)) : cA := ⟨0, [.t 0], aD0 l⟩
theorem aGD {fns : T cA} {Q : Out → bT → St → Prop} (hQ : ∀ A, aC 0 A.F = .bool true → Q .ret A S) : ∀ {l : List (Nat × Nat × IntKind × Int)} {A : bT}, (∀ c ∈ l, mX S.h c.1 c.2.1 = some (.int c.2.2.1 c.2.2.2)) → lZ fns (aD0 l) A S Q
 | [], A, _ => by
  refine aE (aR ?_)
  rw [aGo]
  exact ⟨.bool true, rfl, (xK).2 (aY (hQ _ (by rw [bJ, if_pos rfl])))⟩
 | (g, j, k, z) :: l, A, h => by
  have h1 := h (g, j, k, z) (by simp)
  simp only at h1
  refine aE (aR (aJi (v := .int k z) h1 (aJi (v := .bool true) ?_ (xK.2 ?_))))
  ·show mW .eql (.p .int) (aC 1 (cG (some 1) A.F (.int k z))) (.int k z) = _
   rw [bJ, if_pos rfl, aAY, decide_eq_true rfl]
  refine aE (aGg (t := true) (by show aC 2 _ = _; rw [bJ, if_pos rfl]) (fun _ => aO ?_) (fun h => by cases h))
  exact aGD hQ fun c hc => h c (by simp [hc])
theorem aIz {fns : T cA} {id : Nat} {l : List (Nat × Nat × IntKind × Int)} (hfn : fns.get id = some (yZ l)) (h : ∀ c ∈ l, mX S.h c.1 c.2.1 = some (.int c.2.2.1 c.2.2.2)) : iQ fns (.fn id [] []) [] S fun r S' => r = .bool true ∧ S' = S := by
 refine cW hfn (by simp) (aGD (fun A hA => ?_) h)
 exact ⟨[aC 0 A.F], rfl, by rw [hA]; rfl, rfl⟩
theorem aDW {v : AV} {k : IntKind} {z : Int} (h : mW .eql (.p .int) v (.int k z) = some (.bool true)) : v = .int k z := by
 cases v with
 | int k' z' =>
  have h' : dN .eql k' z' k z = some (.bool true) := h
  unfold dN at h'
  rw [show fD .eql = false from rfl, aM] at h'
  obtain ⟨hk, h'⟩ := bN h'
  have hz : some (AV.bool (ieq z' z)) = some (.bool true) := h'
  simp only [Option.some.injEq, AV.bool.injEq] at hz
  rw [lD] at hz
  have hz := eq_of_beq hz
  subst hz
  have hkk : k' = k := by
   cases k <;> cases k' <;> first | rfl | (exfalso; revert hk; decide)
  rw [hkk]
 | _ => cases h
theorem aET {fns : T cA} : ∀ {l : List (Nat × Nat × IntKind × Int)} {n : Nat} {A A' : bT} {S' : St} {o : Out}, (ev fns n).code (aD0 l) A S = some (o, A', S') → (∀ i, o ≠ .exit i) → (∀ c ∈ l, mX S.h c.1 c.2.1 = some (.int c.2.2.1 c.2.2.2)) ∧ S' = S ∧ aC 0 A'.F = .bool true
 | l, 0, _, _, _, _, h, _ => by cases h
 | l, 1, A, A', S', o, h, _ => by
  cases l with
  | nil =>
   have h' : (none : Option (Out × bT × St)) = some (o, A', S') := h
   cases h'
  | cons c l =>
   obtain ⟨g, j, k, z⟩ := c
   have h' : (none : Option (Out × bT × St)) = some (o, A', S') := h
   cases h'
 | [], n + 2, A, A', S', o, h, ho => by
  obtain ⟨⟨o1, A1, S1⟩, h1, h2⟩ := aD (show aU ((ev fns (n + 1)).code (.reg [⟨some 0, .q (.mv (.c (.bool true))), none, 0⟩]) A S) (pU .ret (ev fns (n + 1))) = some (o, A', S') from h)
  have e1 : (ev fns (n + 1)).code (.reg [⟨some 0, .q (.mv (.c (.bool true))), none, 0⟩]) A S = some (.normal, ⟨cG (some 0) A.F (.bool true), A.inr⟩, S) := rfl
  rw [e1] at h1
  cases h1
  have e2 : pU .ret (ev fns (n + 1)) (.normal, ⟨cG (some 0) A.F (.bool true), A.inr⟩, S) = some (.ret, ⟨cG (some 0) A.F (.bool true), A.inr⟩, S) := rfl
  rw [e2] at h2
  cases h2
  exact ⟨fun c hc => (by cases hc), rfl, by rw [bJ, if_pos rfl]⟩
 | (g, j, k, z) :: l, n + 2, A, A', S', o, h, ho => by
  obtain ⟨⟨o1, A1, S1⟩, h1, h2⟩ := aD (show aU ((ev fns (n + 1)).code (.reg [⟨some 1, .q (.ld false 1 (.c (.ptr g j))), none, 0⟩, ⟨some 2, .q (.bin .eql (.p .int) (.t 1) (.c (.int k z))), none, 0⟩]) A S) (pU (.seq (.cond (.t 2) .skip (.exit 0)) (aD0 l)) (ev fns (n + 1))) = some (o, A', S') from h)
  obtain ⟨⟨F1, S2⟩, h3, h4⟩ := aD (show aU (sI [⟨some 1, .q (.ld false 1 (.c (.ptr g j))), none, 0⟩, ⟨some 2, .q (.bin .eql (.p .int) (.t 1) (.c (.int k z))), none, 0⟩] (ev fns n).call A.F S) (fun r => some (.normal, (⟨r.1, A.inr⟩ : bT), r.2)) = some (o1, A1, S1) from h1)
  cases h4
  rw [fQ] at h3
  obtain ⟨⟨F2, S3⟩, h5, h6⟩ := aD h3
  obtain ⟨v, hv, h7⟩ := aD (show aU (mX S.h g j) (fun v => some (cG (some 1) A.F v, S)) = some (F2, S3) from h5)
  cases h7
  rw [fQ] at h6
  obtain ⟨⟨F4, S4⟩, h8, h9⟩ := aD h6
  cases h9
  obtain ⟨b, hb, h10⟩ := aD (show aU (mW .eql (.p .int) (aC 1 (cG (some 1) A.F v)) (.int k z)) (fun u => some (cG (some 2) (cG (some 1) A.F v) u, S)) = some (F4, S4) from h8)
  cases h10
  rw [bJ, if_pos rfl] at hb
  have h2 : (ev fns (n + 1)).code (.seq (.cond (.t 2) .skip (.exit 0)) (aD0 l)) ⟨cG (some 2) (cG (some 1) A.F v) b, A.inr⟩ S = some (o, A', S') := h2
  obtain ⟨⟨o5, A5, S5⟩, k1, k2⟩ := aD (show aU ((ev fns n).code (.cond (.t 2) .skip (.exit 0)) ⟨cG (some 2) (cG (some 1) A.F v) b, A.inr⟩ S) (pU (aD0 l) (ev fns n)) = some (o, A', S') from h2)
  cases n with
  | zero => cases k1
  | succ n =>
   have k1 : aAD (aC 2 (cG (some 2) (cG (some 1) A.F v) b)) .skip (.exit 0) (ev fns n) ⟨cG (some 2) (cG (some 1) A.F v) b, A.inr⟩ S = some (o5, A5, S5) := k1
   rw [bJ, if_pos rfl] at k1
   cases b with
   | bool t =>
    have k1 : (ev fns n).code (bO t .skip (.exit 0)) ⟨cG (some 2) (cG (some 1) A.F v) (.bool t), A.inr⟩ S = some (o5, A5, S5) := k1
    cases t with
    | true =>
     rw [aG] at k1
     cases n with
     | zero => cases k1
     | succ n =>
      have e : (ev fns (n + 1)).code .skip ⟨cG (some 2) (cG (some 1) A.F v) (.bool true), A.inr⟩ S = some (.normal, ⟨cG (some 2) (cG (some 1) A.F v) (.bool true), A.inr⟩, S) := rfl
      rw [e] at k1
      cases k1
      have ih := aET (l := l) (show (ev fns (n + 1 + 1)).code (aD0 l) _ S = some (o, A', S') from k2) ho
      refine ⟨fun c hc => ?_, ih.2⟩
      rcases List.mem_cons.1 hc with rfl | hc
      ·rw [hv, aDW hb]
      ·exact ih.1 c hc
    | false =>
     rw [aM] at k1
     cases n with
     | zero => cases k1
     | succ n =>
      have e : (ev fns (n + 1)).code (.exit 0) ⟨cG (some 2) (cG (some 1) A.F v) (.bool false), A.inr⟩ S = some (.exit 0, ⟨cG (some 2) (cG (some 1) A.F v) (.bool false), A.inr⟩, S) := rfl
      rw [e] at k1
      cases k1
      have k2 : some (Out.exit 0, (⟨cG (some 2) (cG (some 1) A.F v) (.bool false), A.inr⟩ : bT), S) = some (o, A', S') := k2
      cases k2
      exact absurd rfl (ho 0)
   | _ => cases k1
theorem aIh {fns : T cA} {l : List (Nat × Nat × IntKind × Int)} {n : Nat} {S' : St} {v : AV} (h : tF (yZ l) [] (ev fns n) S = some (v, S')) : (∀ c ∈ l, mX S.h c.1 c.2.1 = some (.int c.2.2.1 c.2.2.2)) ∧ S' = S ∧ v = .bool true := by
 unfold tF at h
 obtain ⟨_, h⟩ := bN h
 obtain ⟨⟨o, A', S1⟩, h1, h2⟩ := aD h
 unfold aDq at h2
 split at h2
 ·cases h2
 ·rename_i hne
  obtain ⟨vs, h3, h4⟩ := aD h2
  cases h4
  obtain ⟨k1, k2, k3⟩ := aET (show (ev fns n).code (aD0 l) ⟨.e, false⟩ S = some (o, A', S1) from h1) (fun i e => hne i e)
  refine ⟨k1, k2, ?_⟩
  have : some [aC 0 A'.F] = some vs := h3
  cases this
  exact k3
def aBj : Nat → Nat → List (IntKind × Int) → List (Nat × Nat × IntKind × Int)
 | _, _, [] => []
 | g, j, (k, z) :: l => (g, j, k, z) :: aBj g (j + 1) l
theorem aBa : ∀ {l : List (IntKind × Int)} {g j i : Nat} {k : IntKind} {z : Int}, l[i]? = some (k, z) → (g, j + i, k, z) ∈ aBj g j l
 | [], _, _, _, _, _, h => by simp at h
 | (k, z) :: l, g, j, 0, k', z', h => by
  simp at h
  obtain ⟨rfl, rfl⟩ := h
  simp [aBj]
 | (k, z) :: l, g, j, i + 1, k', z', h => by
  have := aBa (g := g) (j := j + 1) (show l[i]? = some (k', z') by simpa using h)
  rw [show j + (i + 1) = j + 1 + i by omega]
  exact List.mem_cons_of_mem _ this
def lP : List (Nat × List (IntKind × Int)) → List (Nat × Nat × IntKind × Int)
 | [] => []
 | (g, l) :: r => aBj g 0 l ++ lP r
theorem yD : ∀ {t : List (Nat × List (IntKind × Int))} {g : Nat} {l : List (IntKind × Int)}, (g, l) ∈ t → ∀ c ∈ aBj g 0 l, c ∈ lP t
 | (g', l') :: t, g, l, h, c, hc => by
  simp only [lP, List.mem_append]
  rcases List.mem_cons.1 h with h | h
  ·cases h; exact .inl hc
  ·exact .inr (yD h c hc)
theorem aE4 (hR : jB P σ S w) {t : List (Nat × List (IntKind × Int))} (hg : ∀ x ∈ t, x.1 < P.globals.size ∧ x.2 ≠ []) (h : ∀ c ∈ lP t, mX S.h c.1 c.2.1 = some (.int c.2.2.1 c.2.2.2)) : aIW P (t.map fun x => (x.1, x.2.map fun y => AV.int y.1 y.2)) w := by
 intro x hx
 obtain ⟨⟨g, l⟩, hgl, rfl⟩ := List.mem_map.1 hx
 obtain ⟨h1, h2⟩ := hg _ hgl
 have hc : ∀ i k z, l[i]? = some (k, z) → mX S.h g i = some (.int k z) := fun i k z hi => by
  have := h _ (yD hgl _ (aBa (g := g) (j := 0) hi))
  simpa using this
 obtain ⟨⟨k0, z0⟩, l', rfl⟩ : ∃ a l', l = a :: l' := by cases l with | nil => exact absurd rfl h2 | cons a l' => exact ⟨a, l', rfl⟩
 have h0 := hc 0 k0 z0 rfl
 unfold mX cP at h0
 obtain ⟨cs, h3, h4⟩ := aD h0
 obtain ⟨bl, h5, h6⟩ := aD h3
 obtain ⟨L, h7, h8, h9⟩ := hR.blk g bl h5
 rw [hR.glob g h1] at h7
 cases h7
 have hcs : ∀ i k z, ((k0, z0) :: l')[i]? = some (k, z) → cs[i]? = some (AV.int k z) := fun i k z hi => by
  have := hc i k z hi
  unfold mX cP at this
  rw [h5, aF, h6, aF, pI] at this
  exact this
 have key : ∀ Cs, fW P σ cs Cs → w.rangeAt g 0 Cs → ∃ Ds, fW P (aCi P) (((k0, z0) :: l').map fun y => AV.int y.1 y.2) Ds ∧ (∀ u ∈ Ds, u.oneCell' = true) ∧ w.rangeAt g 0 Ds := by
  intro Cs hC hr
  refine ⟨((k0, z0) :: l').map fun y => Value.int y.1 y.2, ?_, fun u hu => ?_, fun j v hv => ?_⟩
  ·clear hcs hc hg h h0 hgl hx h2
   generalize (k0, z0) :: l' = m
   induction m with
   | nil => exact cJ.2 rfl
   | cons a m ih => exact cD.2 ⟨_, _, rfl, by simp only [Rv], ih⟩
  ·obtain ⟨y, _, rfl⟩ := List.mem_map.1 hu
   rfl
  ·rw [List.getElem?_map, Option.map_eq_some_iff] at hv
   obtain ⟨⟨k, z⟩, hkz, rfl⟩ := hv
   have h10 := hcs j k z hkz
   obtain ⟨V, hV, hVV⟩ := hC.get h10
   simp only [Rv] at hVV
   rw [← hVV]
   exact hr j V hV
 refine ⟨h1, by simpa using h8, ?_⟩
 cases bl with
 | cells ds o s =>
  simp only [nP, Option.some.injEq] at h6
  subst h6
  obtain ⟨Cs, q1, _, q3, _⟩ := h9
  exact key Cs q1 q3
 | ro ds =>
  simp only [nP, Option.some.injEq] at h6
  subst h6
  obtain ⟨Cs, q1, _, q3⟩ := h9
  exact key Cs q1 q3
 | _ => cases h6
theorem aDU {l : List (Nat × List AV)} {σ' : Env} {S' : St} {w' : World} (hR : jB P σ S w) (h : gG P (aCi P) (stL P l) w σ' S' w') : gG P σ S w σ S w' := by
 have hk : ∀ r, r < w.heap.size → w'.heap[r]? = w.heap[r]? := fun r hr => h.keep r hr (aNW r)
 refine ⟨⟨fun b bl hb => ?_, hR.lt, hR.fresh, hR.glob, hR.inj⟩, fun _ _ => rfl, Nat.le_refl _, fun r hr _ => hk r hr, fun _ ho => .inl ho, h.size, h.os, h.tape, h.output, fun _ _ hb => hb⟩
 obtain ⟨L, q1, q2, q3⟩ := hR.blk b bl hb
 exact ⟨L, q1, Nat.lt_of_lt_of_le q2 h.size, q3.frame (fun _ _ x => x) (hk _ q2)⟩
theorem aCD {fns : T cA} {id nt : Nat} {res : List RV} {c : AC} {Fn : Func} {t : List (Nat × List (IntKind × Int))} {l : List (Nat × List AV)} (hFn : P.funcs[id]? = some Fn) (hc : cFn P Fn = some ⟨nt, res, c⟩) (hl : l = t.map fun x => (x.1, x.2.map fun y => AV.int y.1 y.2)) (hg : ∀ x ∈ t, x.1 < P.globals.size ∧ x.2 ≠ [])
  (h : Good P c ⟨.e, false⟩ (stL P l) fun o A S => aG9 res o A S = some true) : aGM P fns id (yZ (lP t)) := by
 obtain ⟨C, c', rs, hbody, hname, hC, hrs, heq⟩ := aBL hc
 cases heq
 refine ⟨rfl, ⟨Fn, C, hFn, hbody, hname⟩, fun n S S' v hrun σ w fv hf hR => ?_⟩
 obtain ⟨hloads, hS', hv⟩ := aIh hrun
 subst hS'; subst hv
 have hT : aIW P l w := by rw [hl]; exact aE4 hR hg hloads
 simp only [Rv] at hf
 obtain ⟨A, B, rfl, hA, hB⟩ := hf
 have hA := cJ.1 hA
 have hB := cJ.1 hB
 subst hA; subst hB
 rw [kR hFn hbody hname]
 show CallsIn Fence.wide 0 P id ⟨[] ++ ([] ++ [])⟩ w _
 refine callsIn_of_wp_marks hFn hbody trivial ?_
 obtain ⟨hfr, hsz⟩ := aB8 (P := P) (σ := aCi P) (args := []) (Args := []) (cJ.2 rfl) (nt := Fn.ntmps) (Nat.zero_le _)
 rw [← aDx]
 refine h none 0 Fn.ntmps C hC (fun _ => rfl) w.heap.size (aCi P) _ w _ hsz Df.nil (Nat.le_refl _) hfr (aM6 hT) ?_
 intro o A' S2 σ' a' w' hret hinr hsz' hdf hfr' hext
 obtain ⟨hoo, hres⟩ := aH6 hret
 obtain ⟨_, rks, hd, hnd, hmk⟩ := hdf
 have fin : ∀ w'', gG P (aCi P) (stL P l) w σ' S2 w'' → ∃ V, (Go.results Fn a'.tmps).run P w'' = .ok V w'' ∧ ∃ σ', Rv P σ' (.bool true) V ∧ gG P σ S' w σ' S' w'' := fun w'' hx => by
  obtain ⟨Vs, h8, h9⟩ := mN hx.rep hfr' hrs hres
  refine ⟨if h : Vs.toArray.size = 1 then Vs.toArray[0] else .tuple Vs.toArray, ?_, σ, ?_, aDU hR hx⟩
  ·show ((do let vs ← Fn.results.mapM (aCY a'.tmps); pure (if h : vs.size = 1 then vs[0] else .tuple vs) : Sem Value)).run P w'' = _
   rw [Array.mapM_eq_mapM_toList]
   simp only [Sem.run_bind, Sem.run_map, h8, Result.andThen_ok, Sem.run_pure]
  ·have := aAw h9
   simp only [oneOf, Rv] at this
   rw [this]
   simp only [Rv]
 rcases hoo with rfl | rfl
 ·show LeavesInM Fence.wide 0 P Fn a'.tmps _ a'.defers .returning w'
  rw [hd]
  exact leaves rks w' hnd hmk hext fin
 ·show LeavesInM Fence.wide 0 P Fn a'.tmps _ a'.defers .returning w'
  rw [hd]
  exact leaves rks w' hnd hmk hext fin
theorem aDO {l : List (Nat × cA)} (hmix : P.follows .mixedOrders = true) (hl : ∀ p ∈ l, Row P p ∨ aGM P (table l) p.1 p.2) : sE P (table l) :=
 ⟨asked P, rK P, fun id fn h => by
  rcases hl _ (zO h) with ⟨Fn, h1, h2⟩ | h1
  ·exact .inl ⟨Fn, h1, h2⟩
  ·exact .inr h1, fun call hcall => aAI (asked P) (rK P) hmix call hcall⟩
end Go.Ev
namespace Go.Ev
variable {P : Program} {σ : Env} {S : St} {w : World}
def yI (S : St) : Prop := ∀ b bl, S.h.get b = some bl → ¬ sJ bl
def wU (σ : Env) (b : Nat) (L : Loc) : Env := fun c => if c = b then some L else σ c
theorem aLy (hR : jB P σ S w) (L : Loc) : ∀ b M, σ b = some M → wU σ S.nx L b = some M := fun b M h => by
 have := hR.below h
 unfold wU
 rw [if_neg (by omega)]
 exact h
structure oL (P : Program) (σ : Env) (S : St) (w : World) (σ' : Env) (S' : St) : Prop where
 rep : jB P σ' S' w
 no : yI S'
 same : Same S S'
 fresh : yN S'
 le : ∀ b L, σ b = some L → σ' b = some L
theorem oL.refl (hR : jB P σ S w) (hn : yI S) (hf : yN S) : oL P σ S w σ S := ⟨hR, hn, Same.refl S, hf, fun _ _ h => h⟩
theorem oL.trans {σ' σ'' : Env} {S' S'' : St} (h : oL P σ S w σ' S') (h' : oL P σ' S' w σ'' S'') : oL P σ S w σ'' S'' := ⟨h'.rep, h'.no, h.same.trans h'.same, h'.fresh, fun b L hb => h'.le b L (h.le b L hb)⟩
theorem aLw (hn : yI S) (r : Nat) : ¬ Own σ S r := fun ⟨b, bl, _, h1, h2, _⟩ => hn b bl h1 h2
theorem aHq {fns : T cA} (hK : sE P fns) {id : Nat} {b : Bool} {Fn : Func} (hFn : P.funcs[id]? = some Fn) (hb : Fn.body.isSome = true) (hnm : (Fn.name == "runtime.NumGoroutine") = false) {avs : List AV} {Args : List Value} {Q : St → Prop}
  (h : iQ fns (.fn id [] []) avs S fun r S' => r = .bool b ∧ Q S') (hargs : fW P σ avs Args) (hR : jB P σ S w) (hn : yI S) :
  Calls P id ⟨Args⟩ w fun e w' => e = .returned (.bool b) ∧ Kept w w' := by
 obtain ⟨n, v, S', hrun0, hv, _⟩ := h
 subst hv
 have hs := aJy hK n _ _ _ _ _ hrun0 σ w (.func (.func id) ⟨[]⟩ ⟨[]⟩) Args (by simp only [Rv]; exact ⟨[], [], rfl, cJ.2 rfl, cJ.2 rfl⟩) hargs hR
 have hnm' : ¬ Fn.name = "runtime.NumGoroutine" := by simpa using hnm
 obtain ⟨C, hC⟩ := Option.isSome_iff_exists.1 hb
 have hrun : ((do let d ← Deferred.ofValue (.func (.func id) ⟨[]⟩ ⟨[]⟩) ⟨Args⟩; invoke d.target d.args : Sem Next)).run P w = .ok (.enter id ⟨Args⟩) w := by
  simp only [Deferred.ofValue, Sem.run_bind, Sem.run_pure, Result.andThen_ok, invoke, callFunc, run_program, hFn]
  simp [hC, hnm']
 rw [hrun] at hs
 have hs : CallsIn Fence.wide 0 P id ⟨Args⟩ w _ := hs
 refine (callsIn_wide.1 hs).mono fun e w' h => ?_
 cases e with
 | returned V =>
  obtain ⟨σ', h1, h2⟩ := h
  simp only [Rv] at h1
  subst h1
  exact ⟨rfl, h2.kept (aLw hn)⟩
 | _ => exact h.elim
theorem aKV {l : List (Nat × List AV)} : yI (stL P l) := fun b bl h ho => by
 obtain ⟨cs, _, rfl⟩ := mC h
 exact ho.elim
theorem aKP {l : List (Nat × List AV)} (hl : ∀ x ∈ l, x.1 < P.globals.size) : yN (stL P l) := fun b hb => by
 cases h : (stL P l).h.get b with
 | none => rfl
 | some bl =>
  obtain ⟨cs, h1, _⟩ := mC h
  have h2 := hl _ h1
  simp only [stL] at hb
  simp only at h2
  omega
end Go.Ev
namespace Go.Ev
variable {P : Program} {σ : Env} {S : St} {w : World}
theorem aHh (hR : jB P σ S w) (hn : yI S) (hf : yN S) (hG : P.globals.size ≤ S.nx) {r d : Nat} {cs : List AV} {Cs : List Value} (hr : r < w.heap.size) (hc : fW P σ cs Cs) (h1 : ∀ u ∈ Cs, u.oneCell' = true) (hw : w.rangeAt r d Cs) :
  oL P σ S w (wU σ S.nx ⟨r, d, 0⟩) ⟨S.h.set S.nx (some (.ro cs)), S.nx + 1⟩ := by
 have hle := aLy hR ⟨r, d, 0⟩
 refine ⟨⟨fun b bl hb => ?_, fun b bl hb => ?_, fun b hb => ?_, fun g hg => ?_, fun b b' bl bl' L L' hb _ ho => ?_⟩, fun b bl hb => ?_, Same.alloc S _, (aH3 S _).1 hf, hle⟩
 ·simp only at hb
  rw [T.get_set] at hb
  split at hb
  ·rename_i e
   subst e
   cases hb
   exact ⟨⟨r, d, 0⟩, by unfold wU; rw [if_pos rfl], hr, Cs, hc.mono hle, h1, hw⟩
  ·obtain ⟨L, h1, h2, h3⟩ := hR.blk b bl hb
   exact ⟨L, hle b L h1, h2, h3.frame hle rfl⟩
 ·simp only at hb
  rw [T.get_set] at hb
  split at hb
  ·rename_i e; subst e; simp
  ·have := hR.lt b bl hb; simp only; omega
 ·simp only at hb
  unfold wU
  rw [if_neg (by omega)]
  exact hR.fresh b (by omega)
 ·unfold wU
  rw [if_neg (by omega)]
  exact hR.glob g hg
 ·simp only at hb
  rw [T.get_set] at hb
  split at hb
  ·cases hb; exact ho.elim
  ·exact absurd ho (hn b bl hb)
 ·simp only at hb
  rw [T.get_set] at hb
  split at hb
  ·cases hb; exact fun h => h
  ·exact hn b bl hb
def Lays (P : Program) (t : TypeId) {α : Type} (E : St → List AV → α → Prop) : Prop :=
 ∀ (H : Type) (enc : TypeId × Value → H) (σ : Env) (S : St) (w : World) (base : Nat) (spare : Nat → Bool) (held : Bool) (fuel : Nat) (cs : List Value) (x : DataW H × List MemPlace), jB P σ S w → yI S → yN S → P.globals.size ≤ S.nx → DataW.trod enc P w base spare held fuel t cs = some x → (∀ n ∈ DataW.weights P t x.1, n ≤ 140737488355328) →
  ∃ σ' S' avs a, oL P σ S w σ' S' ∧ fW P σ' avs cs ∧ (∀ u ∈ cs, u.oneCell' = true) ∧ E S' avs a ∧ S.nx ≤ S'.nx
def aCw {α : Type} (E : St → List AV → α → Prop) : Prop := ∀ {S S' : St} {avs : List AV} {a : α}, E S avs a → Same S S' → E S' avs a
def aKR (k : IntKind) (_ : St) (avs : List AV) (z : Int) : Prop := avs = [.int k z] ∧ (Lit.int k z).wf = true
theorem aI5 {k : IntKind} : aCw (aKR k) := fun h _ => h
theorem aJC {t : TypeId} {k : IntKind} (ht : P.underlying t = some (.int k)) : Lays P t (aKR k) := by
 intro H enc σ S w base spare held fuel cs x hR hn hf hG h hW
 obtain ⟨n, rfl, _, hw⟩ := DataW.trod_int ht h
 exact ⟨σ, S, [.int k n], n, oL.refl hR hn hf, cD.2 ⟨_, _, rfl, by simp only [Rv], cJ.2 rfl⟩, fun u hu => by simp at hu; subst hu; rfl, ⟨rfl, hw⟩, Nat.le_refl _⟩
theorem aAC {H : Type} {e : TypeId} {d : DataW H} {n : Nat} : ∀ {l : List (DataW H)}, d ∈ l → n ∈ DataW.weights P e d → n ∈ DataW.weightsAll P e l
 | [], h, _ => by cases h
 | x :: r, h, hn => by
  show n ∈ DataW.weights P e x ++ DataW.weightsAll P e r
  rcases List.mem_cons.1 h with rfl | h
  ·exact List.mem_append_left _ hn
  ·exact List.mem_append_right _ (aAC h hn)
theorem xM {H : Type} {n : Nat} : ∀ {ts : List TypeId} {l : List (DataW H)} {i : Nat} {t : TypeId} {d : DataW H}, ts[i]? = some t → l[i]? = some d → n ∈ DataW.weights P t d → n ∈ DataW.weightsEach P ts l
 | [], _, _, _, _, h, _, _ => by simp at h
 | _ :: _, [], _, _, _, _, h, _ => by simp at h
 | u :: ts, x :: r, 0, t, d, h1, h2, hn => by
  simp at h1 h2
  subst h1
  subst h2
  exact List.mem_append_left _ hn
 | u :: ts, x :: r, i + 1, t, d, h1, h2, hn => by
  show n ∈ DataW.weights P u x ++ DataW.weightsEach P ts r
  exact List.mem_append_right _ (xM (by simpa using h1) (by simpa using h2) hn)
theorem aCA {H : Type} {t e : TypeId} {xs ys : List (DataW H)} (ht : P.underlying t = some (.slice e)) : DataW.weights P t (.slice xs ys) = (xs.length + ys.length) * P.bytesOf e :: (DataW.weightsAll P e xs ++ DataW.weightsAll P e ys) := by
 unfold DataW.weights
 rw [ht]
def aI3 (k : Nat) {α : Type} (E : St → List AV → α → Prop) (S : St) (avs : List AV) (l : List α) : Prop :=
 ∃ av, avs = [av] ∧ l.length * (8 * k) ≤ 140737488355328 ∧ ((l = [] ∧ (av = .nilsl ∨ av = .emp)) ∨ ∃ (b cap : Nat) (css : List (List AV)), av = .sl b 0 l.length cap false ∧ l.length ≤ cap ∧ b < S.nx ∧ S.h.get b = some (.ro css.flatten) ∧ css.length = l.length ∧ ∀ (i : Nat) (cs : List AV) (a : α), css[i]? = some cs → l[i]? = some a → cs.length = k ∧ E S cs a)
theorem aI2 {a : Addr} {n base : Nat} {cs : List Value} (h : w.cells? base a n = some cs) : cs.length = n ∧ ∀ i, i < n → w.cell? (a.add i) = cs[i]? := by
 unfold World.cells? at h
 split at h
 ·refine ⟨by simpa using mapM_some_length h, fun i hi => ?_⟩
  exact mapM_some_get h i i (by simp [hi])
 ·cases h
theorem aCh {e : TypeId} {k : Nat} {α : Type} {E : St → List AV → α → Prop} (hE : Lays P e E) (hF : aCw E) (hk : 0 < k) {H : Type} {enc : TypeId × Value → H} {base : Nat} {spare : Nat → Bool} {held : Bool} {fuel : Nat} {a : Addr} (hspot : a.spot = none)
  (hR : jB P σ S w) (hn : yI S) (hf : yN S) (hG : P.globals.size ≤ S.nx) : ∀ {m : Nat}, (∀ i, i < m → ∃ x, (w.cells? base (a.add (i * k)) k).bind (DataW.trod enc P w base spare held fuel e) = some x ∧ ∀ n ∈ DataW.weights P e x.1, n ≤ 140737488355328) →
  ∃ (σ' : Env) (S' : St) (css : List (List AV)), ∃ l : List α, ∃ Cs : List Value, oL P σ S w σ' S' ∧ S.nx ≤ S'.nx ∧ css.length = m ∧ l.length = m ∧ (∀ (i : Nat) (cs : List AV) (a : α), css[i]? = some cs → l[i]? = some a → cs.length = k ∧ E S' cs a) ∧ fW P σ' css.flatten Cs ∧ (∀ u ∈ Cs, u.oneCell' = true) ∧ Cs.length = m * k ∧ w.rangeAt a.block a.off Cs
 | 0, _ => ⟨σ, S, [], [], [], oL.refl hR hn hf, Nat.le_refl _, rfl, rfl, fun i cs a hi => (by simp at hi), cJ.2 rfl, fun u hu => (by cases hu), by simp, fun j v hv => (by simp at hv)⟩
 | m + 1, h => by
  obtain ⟨σ1, S1, css, l, Cs, hA, hn1, hcl, hll, hel, hrv, hone, hlen, hrange⟩ := aCh hE hF hk hspot hR hn hf hG (m := m) fun i hi => h i (by omega)
  obtain ⟨x, hx, hxW⟩ := h m (by omega)
  obtain ⟨cs, hcs, hx⟩ := Option.bind_eq_some_iff.1 hx
  obtain ⟨σ2, S2, avs, y, hA2, hrv2, hone2, hE2, hn2⟩ := hE H enc σ1 S1 w base spare held fuel cs x hA.rep hA.no hA.fresh (Nat.le_trans hG hn1) hx hxW
  obtain ⟨hcl2, hcell⟩ := aI2 hcs
  have hal : avs.length = k := by rw [← hrv2.length]; exact hcl2
  refine ⟨σ2, S2, css ++ [avs], l ++ [y], Cs ++ cs, hA.trans hA2, Nat.le_trans hn1 hn2, by simp [hcl], by simp [hll], ?_, ?_, ?_, ?_, ?_⟩
  ·intro i cs' a' hi ha
   rw [List.getElem?_append] at hi ha
   rw [hcl] at hi
   rw [hll] at ha
   split at hi
   ·rename_i hlt
    rw [if_pos hlt] at ha
    exact ⟨(hel i cs' a' hi ha).1, hF (hel i cs' a' hi ha).2 hA2.same⟩
   ·rename_i hlt
    rw [if_neg hlt] at ha
    have him : i - m = 0 := by
     rcases Nat.eq_zero_or_pos (i - m) with h | h
     ·exact h
     ·obtain ⟨q, hq⟩ := Nat.exists_eq_succ_of_ne_zero (Nat.pos_iff_ne_zero.1 h)
      rw [hq] at hi; simp at hi
    rw [him] at hi ha
    simp at hi ha
    subst hi; subst ha
    exact ⟨hal, hE2⟩
  ·rw [List.flatten_append]
   simp only [List.flatten_cons, List.flatten_nil, List.append_nil]
   exact (hrv.mono hA2.le).append hrv2
  ·intro u hu
   rcases List.mem_append.1 hu with hu | hu
   ·exact hone u hu
   ·exact hone2 u hu
  ·rw [List.length_append, hlen, hcl2, Nat.succ_mul]
  ·intro j v hv
   rw [List.getElem?_append] at hv
   split at hv
   ·exact hrange j v hv
   ·rename_i hlt
    have hj : j - Cs.length < k := by
     have := (List.getElem?_eq_some_iff.1 hv).1
     omega
    have := hcell (j - Cs.length) hj
    rw [hv] at this
    rw [← this]
    congr 1
    have hadd : ∀ i, a.add i = ⟨a.block, a.off + i, none⟩ := fun i => by
     unfold Addr.add
     split
     ·rename_i h; subst h; cases a; simp_all
     ·rfl
    have hadd2 : ∀ (x y : Nat), Addr.add ⟨a.block, x, none⟩ y = ⟨a.block, x + y, none⟩ := fun x y => by
     unfold Addr.add
     split
     ·rename_i h; rw [h, Nat.add_zero]
     ·rfl
    rw [hadd, hadd2, hlen]
    congr 1
    rw [hlen] at hlt
    omega
theorem aFU {t e : TypeId} {k : Nat} {α : Type} {E : St → List AV → α → Prop} (ht : P.underlying t = some (.slice e)) (hc : P.cellsOf e = k) (hk : 0 < k) (hby : 8 * k ≤ P.bytesOf e) (hE : Lays P e E) (hF : aCw E) : Lays P t (aI3 k E) := by
 intro H enc σ S w base spare held fuel cs x hR hn hf hG h hW
 rcases DataW.trod_slice ht h with ⟨rfl, _⟩ | ⟨a, len, cap, elems, rest, n, rfl, rfl, hxe, _, hlc, _, hlen, hel, _⟩
 ·exact ⟨σ, S, [.nilsl], [], oL.refl hR hn hf, cD.2 ⟨_, _, rfl, by simp only [Rv], cJ.2 rfl⟩, fun u hu => by simp at hu; subst hu; rfl, ⟨_, rfl, by simp, .inl ⟨rfl, .inl rfl⟩⟩, Nat.le_refl _⟩
 ·rw [hc] at hel
  subst hxe
  have hW : ∀ n ∈ DataW.weights P t (.slice (elems.map (·.1)) (rest.map (·.1))), n ≤ 140737488355328 := hW
  rw [aCA ht] at hW
  have hlw : len * (8 * k) ≤ 140737488355328 := by
   have h1 := hW _ (List.mem_cons_self ..)
   rw [List.length_map, hlen, Nat.add_mul] at h1
   exact Nat.le_trans (Nat.mul_le_mul_left len hby) (by omega)
  rcases Nat.eq_zero_or_pos len with h0 | hp
  ·subst h0
   exact ⟨σ, S, [.emp], [], oL.refl hR hn hf, cD.2 ⟨_, _, rfl, by simp only [Rv]; exact ⟨a, cap, rfl⟩, cJ.2 rfl⟩, fun u hu => by simp at hu; subst hu; rfl, ⟨_, rfl, by simp, .inl ⟨rfl, .inr rfl⟩⟩, Nat.le_refl _⟩
  ·have hget : ∀ i, i < len → ∃ x, (w.cells? base (a.add (i * k)) k).bind (DataW.trod enc P w base spare held n e) = some x ∧ ∀ n ∈ DataW.weights P e x.1, n ≤ 140737488355328 := fun i hi => by
    rw [hel i hi]
    exact ⟨elems[i]'(by omega), List.getElem?_eq_getElem (by omega), fun n hn => hW n (List.mem_cons_of_mem _ (List.mem_append_left _ (aAC (List.mem_map_of_mem (List.getElem_mem _)) hn)))⟩
   obtain ⟨x0, hx0, _⟩ := hget 0 hp
   obtain ⟨cs0, hcs0, _⟩ := Option.bind_eq_some_iff.1 hx0
   obtain ⟨hl0, hc0⟩ := aI2 hcs0
   have c0 := hc0 0 hk
   rw [List.getElem?_eq_getElem (by omega), Nat.zero_mul] at c0
   have e0 : (a.add 0).add 0 = a := rfl
   rw [e0] at c0
   have hblk : a.block < w.heap.size ∧ a.spot = none := by
    unfold World.cell? at c0
    cases hh : w.heap[a.block]? with
    | none => rw [hh] at c0; cases c0
    | some o =>
     refine ⟨(Array.getElem?_eq_some_iff.1 hh).1, ?_⟩
     rw [hh] at c0
     cases o with
     | cells c t fr =>
      simp only at c0
      by_cases hs : a.spot.isSome
      ·rw [if_pos hs] at c0; cases c0
      ·simpa using hs
     | _ => cases c0
   obtain ⟨σ1, S1, css, l, Cs, hA, hn1, hcl, hll, hE1, hrv, hone, hCl, hrange⟩ := aCh hE hF hk hblk.2 hR hn hf hG hget
   have hA2 := aHh hA.rep hA.no hA.fresh (Nat.le_trans hG hn1) hblk.1 hrv hone hrange
   refine ⟨_, _, [.sl S1.nx 0 len cap false], l, hA.trans hA2, cD.2 ⟨_, _, rfl, ?_, cJ.2 rfl⟩, fun u hu => by simp at hu; subst hu; rfl, ⟨_, rfl, by rw [hll]; exact hlw, .inr ⟨S1.nx, cap, css, by rw [hll], by omega, by simp, ?_, by rw [hcl, hll], fun i cs a' hi ha => ⟨(hE1 i cs a' hi ha).1, hF (hE1 i cs a' hi ha).2 hA2.same⟩⟩⟩, by simp only; omega⟩
   ·simp only [Rv]
    refine ⟨⟨a.block, a.off, 0⟩, by unfold wU; rw [if_pos rfl], ?_⟩
    have := hblk.2
    cases a
    simp_all
   ·simp only
    rw [T.get_set, if_pos rfl]
end Go.Ev
namespace Go.Ev
def aQ (k : Nat) {α : Type} (E : St → List AV → α → Prop) (S : St) (v : AV) (l : List α) : Prop :=
 (l = [] ∧ (v = .nilsl ∨ v = .emp)) ∨ ∃ b off cap o cs, v = .sl b off l.length cap o ∧ l.length ≤ cap ∧ b < S.nx ∧ cP S.h b = some cs ∧ ∀ (i : Nat) (a : α), l[i]? = some a → ∃ e : List AV, e.length = k ∧ (∀ (j : Nat) (x : AV), e[j]? = some x → cs[off + i * k + j]? = some x) ∧ E S e a
theorem aQ.same {k : Nat} {α : Type} {E : St → List AV → α → Prop} (hE : aCw E) {S S' : St} {v : AV} {l : List α} (h : aQ k E S v l) (hs : Same S S') : aQ k E S' v l := by
 rcases h with h | ⟨b, off, cap, o, cs, h1, hc, h2, h3, h4⟩
 ·exact .inl h
 ·refine .inr ⟨b, off, cap, o, cs, h1, hc, Nat.lt_of_lt_of_le h2 hs.1, by rw [rN hs h2]; exact h3, fun i a hi => ?_⟩
  obtain ⟨e, e1, e2, e3⟩ := h4 i a hi
  exact ⟨e, e1, e2, hE e3 hs⟩
theorem flat_get {k : Nat} : ∀ {css : List (List AV)} {i j : Nat} {cs : List AV} {x : AV}, (∀ (i : Nat) (cs : List AV), css[i]? = some cs → cs.length = k) → css[i]? = some cs → cs[j]? = some x → css.flatten[i * k + j]? = some x
 | [], i, j, cs, x, _, hi, _ => by simp at hi
 | c :: css, 0, j, cs, x, _, hi, hj => by
  simp at hi
  subst hi
  rw [Nat.zero_mul, Nat.zero_add, List.flatten_cons, List.getElem?_append_left (List.getElem?_eq_some_iff.1 hj).1]
  exact hj
 | c :: css, i + 1, j, cs, x, hk, hi, hj => by
  have hc := hk 0 c rfl
  rw [List.flatten_cons, Nat.succ_mul, List.getElem?_append_right (by omega), hc, show i * k + k + j - k = i * k + j by omega]
  exact flat_get (fun i cs h => hk (i + 1) cs (by simpa using h)) (by simpa using hi) hj
theorem aI3.is {k : Nat} {α : Type} {E : St → List AV → α → Prop} {S : St} {avs : List AV} {l : List α} (h : aI3 k E S avs l) : ∃ v, avs = [v] ∧ aQ k E S v l := by
 obtain ⟨v, rfl, _, h | ⟨b, cap, css, h1, h2, h3, h4, h5, h6⟩⟩ := h
 ·exact ⟨v, rfl, .inl h⟩
 ·refine ⟨v, rfl, .inr ⟨b, 0, cap, false, css.flatten, h1, h2, h3, ?_, fun i a hi => ?_⟩⟩
  ·unfold cP; rw [h4]; rfl
  ·have hil : i < css.length := by have := (List.getElem?_eq_some_iff.1 hi).1; omega
   obtain ⟨e1, e2⟩ := h6 i css[i] a (List.getElem?_eq_getElem hil) hi
   refine ⟨css[i], e1, fun j x hj => ?_, e2⟩
   rw [Nat.zero_add]
   exact flat_get (fun i' cs' hi' => (h6 i' cs' (l[i']'(by have := (List.getElem?_eq_some_iff.1 hi').1; omega)) hi' (List.getElem?_eq_getElem _)).1) (List.getElem?_eq_getElem hil) hj
section
variable {k : Nat} {α : Type} {E : St → List AV → α → Prop} {S : St} {v : AV} {l : List α}
theorem aQ.len (h : aQ k E S v l) : mB v = some (.int .i64 ((l.length : Nat) : Int)) := by
 rcases h with ⟨rfl, rfl | rfl⟩ | ⟨b, off, cap, o, cs, rfl, _⟩ <;> rfl
def aJr (k : Nat) (v : AV) (i : Nat) : AV :=
 match v with
 | .sl b off _ _ _ => .ptr b (off + i * k)
 | _ => .undef
theorem aQ.iaddr (h : aQ k E S v l) {i : Nat} (hi : i < l.length) : eO (.slice k) v i = some (aJr k v i) := by
 rcases h with ⟨rfl, _⟩ | ⟨b, off, cap, o, cs, rfl, _⟩
 ·simp at hi
 ·simp only [eO, aJr]
  have : Nat.blt i l.length = true := Nat.ble_eq_true_of_le hi
  rw [this, aG]
theorem aQ.get (h : aQ k E S v l) {i : Nat} {a : α} (hi : l[i]? = some a) : ∃ (e : List AV) (b p : Nat), aJr k v i = .ptr b p ∧ b < S.nx ∧ e.length = k ∧ E S e a ∧ ∃ cs, cP S.h b = some cs ∧ ∀ (j : Nat) (x : AV), e[j]? = some x → cs[p + j]? = some x := by
 rcases h with ⟨rfl, _⟩ | ⟨b, off, cap, o, cs, rfl, hc, hb, hcs, hel⟩
 ·simp at hi
 ·obtain ⟨e, e1, e2, e3⟩ := hel i a hi
  exact ⟨e, b, off + i * k, rfl, hb, e1, e3, cs, hcs, e2⟩
end
end Go.Ev
