import Derived.Test.YtoojnpjgnnpllaaEv7
import Derived.ChangeSlices
import Derived.ChangeArms
import Derived.DataReads
namespace Go.Ev
def qO (c d : eI) : Prop := ∀ f args S r, c f args S = some r → d f args S = some r
structure Le (a b : Evs) : Prop where
 code : ∀ c A S r, a.code c A S = some r → b.code c A S = some r
 call : qO a.call b.call
theorem eU {α β : Type} {x y : Option α} {f g : α → Option β} {b : β} (h : bE x f = some b) (hx : ∀ a, x = some a → y = some a) (hf : ∀ a, f a = some b → g a = some b) : bE y g = some b := by
 obtain ⟨a, h1, h2⟩ := aK h
 rw [hx a h1]
 exact hf a h2
theorem aGS {c d : eI} (h : qO c d) {v : AV} {tbl : List (Nat × Nat × Option (Bool × Nat))} {args : List AV} {S : St} {r : AV × St} (hv : aFU v tbl args c S = some r) : aFU v tbl args d S = some r := by
 unfold aFU at hv ⊢
 split at hv
 ·refine eU hv (fun _ h => h) fun a ha => ?_
  unfold aFq at ha ⊢
  split at ha
  ·exact h _ _ _ _ ha
  ·unfold aId at ha ⊢
   split at ha
   ·exact eU ha (fun _ h => h) fun _ hb => h _ _ _ _ hb
   ·cases ha
 ·cases hv
theorem aE7 {c d : eI} (h : qO c d) {x : XOp} {F : Fr} {S : St} {r : AV × St} (hv : vV x c F S = some r) : vV x d F S = some r := by
 cases x with
 | call f args => exact h _ _ _ _ hv
 | inv tbl recv args => exact aGS h hv
 | _ => exact hv
theorem aG8 {c d : eI} (h : qO c d) {o : AO} {F : Fr} {S : St} {r : Fr × St} (hv : aAZ o c F S = some r) : aAZ o d F S = some r := by
 unfold aAZ at hv ⊢
 rw [cH] at hv ⊢
 split at hv
 ·rename_i hw
  rw [if_pos hw]
  cases ho : o.op with
  | q q => rw [ho] at hv; exact hv
  | a a => rw [ho] at hv; exact hv
  | x x =>
   rw [ho] at hv
   exact eU (show bE (vV x c F S) _ = some r from hv) (fun _ hx => aE7 h hx) fun _ hb => hb
 ·rename_i hw
  rw [if_neg hw]
  exact hv
theorem uC {c d : eI} (h : qO c d) : ∀ {l : List AO} {F : Fr} {S : St} {r : Fr × St}, rJ l c F S = some r → rJ l d F S = some r
 | [], F, S, r, hv => hv
 | o :: l, F, S, r, hv => eU (show bE (aAZ o c F S) (fun r => rJ l c r.1 r.2) = some r from hv) (fun _ hx => aG8 h hx) fun _ hb => uC h hb
theorem aI4 {c d : eI} (h : qO c d) {o : AO} {i base : Nat} {D : DS} {r : DS} (hv : oK o i base c D = some r) : oK o i base d D = some r := by
 unfold oK at hv ⊢
 rw [cH] at hv ⊢
 split at hv
 ·rename_i hw
  rw [if_pos hw]
  cases ho : o.op with
  | q q => rw [ho] at hv; exact hv
  | a a => rw [ho] at hv; exact hv
  | x x =>
   rw [ho] at hv
   obtain ⟨h1, h2⟩ := cG (show bQ (iQ D.hs o.mask) _ none = some r from hv)
   show bQ (iQ D.hs o.mask) _ none = some r
   rw [h1, aF]
   exact eU h2 (fun _ hx => aE7 h hx) fun _ hb => hb
 ·rename_i hw
  rw [if_neg hw]
  exact hv
theorem pN {c d : eI} (h : qO c d) : ∀ {l : List AO} {i base : Nat} {D r : DS}, rQ l i base c D = some r → rQ l i base d D = some r
 | [], _, _, _, _, hv => hv
 | o :: l, i, base, D, r, hv => eU (show bE (oK o i base c D) (fun D' => rQ l (i + 1) base c D') = some r from hv) (fun _ hx => aI4 h hx) fun _ hb => pN h hb
theorem aDr {c d : eI} (h : qO c d) {l : List AO} {F : Fr} {S : St} {r : Fr × St} (hv : tL l c F S = some r) : tL l d F S = some r :=
 eU (show bE _ _ = some r from hv) (fun _ hx => pN h hx) fun _ hb => hb
theorem aEH {a b : Evs} (h : Le a b) {c : AC} {A : bT} {S : St} {r : Out × bT × St} (hv : aFc c a A S = some r) : aFc c b A S = some r := by
 cases c with
 | skip => exact hv
 | seq x y =>
  refine eU (show bE (a.code x A S) (pL y a) = some r from hv) (fun _ hx => h.code _ _ _ _ hx) fun q hq => ?_
  unfold pL at hq ⊢
  split at hq
  ·exact h.code _ _ _ _ hq
  ·exact hq
 | cond x y z =>
  have hv : zG (x.val A.F) y z a A S = some r := hv
  show zG (x.val A.F) y z b A S = some r
  unfold zG at hv ⊢
  split at hv
  ·exact h.code _ _ _ _ hv
  ·cases hv
 | block id x => exact eU (show bE (a.code x A S) (oT id) = some r from hv) (fun _ hx => h.code _ _ _ _ hx) fun _ hq => hq
 | loop x =>
  refine eU (show bE (a.code x A S) (pL (.loop x) a) = some r from hv) (fun _ hx => h.code _ _ _ _ hx) fun q hq => ?_
  unfold pL at hq ⊢
  split at hq
  ·exact h.code _ _ _ _ hq
  ·exact hq
 | exit id => exact hv
 | ret => exact hv
 | reg ops => exact eU (show bE (rJ ops a.call A.F S) _ = some r from hv) (fun _ hx => uC h.call hx) fun _ hq => hq
 | drw ops => exact eU (show bE (tL ops a.call A.F S) _ = some r from hv) (fun _ hx => aDr h.call hx) fun _ hq => hq
 | rng f ps as bd =>
  have hv : aJX f ps as bd a A S = some r := hv
  show aJX f ps as bd b A S = some r
  unfold aJX at hv ⊢
  cases hi : A.inr with
  | true => rw [hi, aF] at hv; cases hv
  | false =>
   rw [hi, aL] at hv
   rw [aL]
   obtain ⟨h1, h2⟩ := cG hv
   rw [h1, aF]
   refine eU h2 (fun _ hx => h.call _ _ _ _ hx) fun q hq => eU hq (fun _ hx => hx) fun bl hbl => ?_
   unfold aJK at hbl ⊢
   split at hbl
   ·split at hbl
    ·cases hbl
    ·exact eU hbl (fun _ hx => hx) fun _ hc => h.code _ _ _ _ hc
   ·cases hbl
 | dfr ops f args => exact hv
theorem aEA {fns : T eJ} {a b : Evs} (h : Le a b) : qO (yR fns a) (yR fns b) := by
 intro f args S r hv
 unfold yR at hv ⊢
 split at hv
 ·refine eU hv (fun _ hx => hx) fun fn hfn => ?_
  unfold sO at hfn ⊢
  obtain ⟨h1, h2⟩ := cG hfn
  rw [h1, aF]
  exact eU h2 (fun _ hx => h.code _ _ _ _ hx) fun _ hq => hq
 ·cases hv
theorem qH (fns : T eJ) : ∀ n, Le (ev fns n) (ev fns (n + 1))
 | 0 => ⟨fun c A S r (h : none = some r) => (by cases h), fun f args S r (h : none = some r) => (by cases h)⟩
 | n + 1 => ⟨fun _ _ _ _ h => aEH (qH fns n) h, aEA (qH fns n)⟩
theorem mJ (fns : T eJ) {n m : Nat} (h : n ≤ m) : Le (ev fns n) (ev fns m) := by
 induction h with
 | refl => exact ⟨fun _ _ _ _ h => h, fun _ _ _ _ h => h⟩
 | step _ ih => exact ⟨fun c A S r h => (qH fns _).code _ _ _ _ (ih.code _ _ _ _ h), fun f args S r h => (qH fns _).call _ _ _ _ (ih.call _ _ _ _ h)⟩
end Go.Ev
namespace Go.Ev
abbrev oq (d : Nat) (q : uY) : AO := ⟨some d, .q q, none, 0⟩
abbrev om (d m : Nat) (q : uY) : AO := ⟨some d, .q q, none, m⟩
abbrev og (d s : Nat) (b : Bool) (m : Nat) (q : uY) : AO := ⟨some d, .q q, some (s, b), m⟩
abbrev oc (d f : Nat) (l : List cK) (m : Nat) : AO := ⟨some d, .x (.call (.c (.fn f [] [])) l), none, m⟩
abbrev mt (d i : Nat) : AO := ⟨some d, .q (.mv (.t i)), none, 0⟩
abbrev ci (n : Int) : cK := .c (.int .i64 n)
abbrev bi (o : BinOp) (x y : cK) : uY := .bin o (.p .int) x y
abbrev ld (i : Nat) : uY := .ld false 1 (.t i)
variable {fns : T eJ}
def kH (fns : T eJ) (c : AC) (A : bT) (S : St) (Q : Out → bT → St → Prop) : Prop := ∃ n o A' S', (ev fns n).code c A S = some (o, A', S') ∧ Q o A' S'
def iM (fns : T eJ) (f : AV) (args : List AV) (S : St) (Q : AV → St → Prop) : Prop := ∃ n v S', (ev fns n).call f args S = some (v, S') ∧ Q v S'
def qM (fns : T eJ) (ops : List AO) (F : Fr) (S : St) (Q : Fr → St → Prop) : Prop := ∃ n F' S', rJ ops (ev fns n).call F S = some (F', S') ∧ Q F' S'
theorem bN {c : AC} {A : bT} {S : St} {Q R : Out → bT → St → Prop} (h : kH fns c A S Q) (hq : ∀ o A S, Q o A S → R o A S) : kH fns c A S R := by
 obtain ⟨n, o, A', S', h1, h2⟩ := h
 exact ⟨n, o, A', S', h1, hq _ _ _ h2⟩
theorem aW {f : AV} {args : List AV} {S : St} {Q R : AV → St → Prop} (h : iM fns f args S Q) (hq : ∀ v S, Q v S → R v S) : iM fns f args S R := by
 obtain ⟨n, v, S', h1, h2⟩ := h
 exact ⟨n, v, S', h1, hq _ _ h2⟩
theorem aEB {ops : List AO} {F : Fr} {S : St} {Q R : Fr → St → Prop} (h : qM fns ops F S Q) (hq : ∀ F S, Q F S → R F S) : qM fns ops F S R := by
 obtain ⟨n, F', S', h1, h2⟩ := h
 exact ⟨n, F', S', h1, hq _ _ h2⟩
theorem aN {A : bT} {S : St} {Q : Out → bT → St → Prop} (h : Q .normal A S) : kH fns .skip A S Q := ⟨1, _, _, _, rfl, h⟩
theorem cC {id : Nat} {A : bT} {S : St} {Q : Out → bT → St → Prop} (h : Q (.exit id) A S) : kH fns (.exit id) A S Q := ⟨1, _, _, _, rfl, h⟩
theorem bD {A : bT} {S : St} {Q : Out → bT → St → Prop} (h : Q .ret A S) : kH fns .ret A S Q := ⟨1, _, _, _, rfl, h⟩
def aBp (fns : T eJ) (y : AC) (Q : Out → bT → St → Prop) : Out → bT → St → Prop
 | .normal, A, S => kH fns y A S Q
 | o, A, S => Q o A S
theorem aD {x y : AC} {A : bT} {S : St} {Q : Out → bT → St → Prop} (h : kH fns x A S (aBp fns y Q)) : kH fns (.seq x y) A S Q := by
 obtain ⟨n, o, A1, S1, h1, h2⟩ := h
 cases o with
 | normal =>
  obtain ⟨m, o, A2, S2, h3, h4⟩ := h2
  refine ⟨max n m + 1, o, A2, S2, ?_, h4⟩
  show bE ((ev fns (max n m)).code x A S) (pL y (ev fns (max n m))) = _
  rw [(mJ fns (Nat.le_max_left n m)).code _ _ _ _ h1, aE]
  exact (mJ fns (Nat.le_max_right n m)).code _ _ _ _ h3
 | ret =>
  refine ⟨n + 1, .ret, A1, S1, ?_, h2⟩
  show bE ((ev fns n).code x A S) (pL y (ev fns n)) = _
  rw [h1]; rfl
 | exit i =>
  refine ⟨n + 1, .exit i, A1, S1, ?_, h2⟩
  show bE ((ev fns n).code x A S) (pL y (ev fns n)) = _
  rw [h1]; rfl
theorem aIF {c : cK} {x y : AC} {A : bT} {S : St} {Q : Out → bT → St → Prop} {t : Bool} (hc : c.val A.F = .bool t) (h : kH fns (bQ t x y) A S Q) : kH fns (.cond c x y) A S Q := by
 obtain ⟨n, o, A1, S1, h1, h2⟩ := h
 refine ⟨n + 1, o, A1, S1, ?_, h2⟩
 show zG (c.val A.F) x y (ev fns n) A S = _
 rw [hc]
 exact h1
theorem aFS {c : cK} {x y : AC} {A : bT} {S : St} {Q : Out → bT → St → Prop} {t : Bool} (hc : c.val A.F = .bool t) (h1 : t = true → kH fns x A S Q) (h2 : t = false → kH fns y A S Q) : kH fns (.cond c x y) A S Q := by
 refine aIF hc ?_
 cases t
 ·exact h2 rfl
 ·exact h1 rfl
def yE (id : Nat) (Q : Out → bT → St → Prop) : Out → bT → St → Prop
 | .exit i, A, S => if i = id then Q .normal A S else Q (.exit i) A S
 | o, A, S => Q o A S
theorem aU {id : Nat} {c : AC} {A : bT} {S : St} {Q : Out → bT → St → Prop} (h : kH fns c A S (yE id Q)) : kH fns (.block id c) A S Q := by
 obtain ⟨n, o, A1, S1, h1, h2⟩ := h
 cases o with
 | normal => exact ⟨n + 1, .normal, A1, S1, by show bE ((ev fns n).code c A S) (oT id) = _; rw [h1]; rfl, h2⟩
 | ret => exact ⟨n + 1, .ret, A1, S1, by show bE ((ev fns n).code c A S) (oT id) = _; rw [h1]; rfl, h2⟩
 | exit i =>
  by_cases hi : i = id
  ·subst hi
   have h2 : Q .normal A1 S1 := by simpa [yE] using h2
   exact ⟨n + 1, .normal, A1, S1, by show bE ((ev fns n).code c A S) (oT i) = _; rw [h1]; simp [aE, oT, cH, Bd], h2⟩
  ·have h2 : Q (.exit i) A1 S1 := by simpa [yE, hi] using h2
   exact ⟨n + 1, .exit i, A1, S1, by show bE ((ev fns n).code c A S) (oT id) = _; rw [h1]; simp [aE, oT, cH, Bd, hi], h2⟩
def aCY (I : Nat → bT → St → Prop) (k : Nat) (Q : Out → bT → St → Prop) : Out → bT → St → Prop
 | .normal, A, S => ∃ k', k' < k ∧ I k' A S
 | o, A, S => Q o A S
theorem cI {c : AC} {Q : Out → bT → St → Prop} (I : Nat → bT → St → Prop) (h : ∀ k A S, I k A S → kH fns c A S (aCY I k Q)) : ∀ k A S, I k A S → kH fns (.loop c) A S Q := by
 intro k
 induction k using Nat.strongRecOn with
 | _ k ih =>
  intro A S hI
  obtain ⟨n, o, A1, S1, h1, h2⟩ := h k A S hI
  cases o with
  | normal =>
   obtain ⟨k', hk, hI'⟩ := h2
   obtain ⟨m, o, A2, S2, h3, h4⟩ := ih k' hk A1 S1 hI'
   refine ⟨max n m + 1, o, A2, S2, ?_, h4⟩
   show bE ((ev fns (max n m)).code c A S) (pL (.loop c) (ev fns (max n m))) = _
   rw [(mJ fns (Nat.le_max_left n m)).code _ _ _ _ h1, aE]
   exact (mJ fns (Nat.le_max_right n m)).code _ _ _ _ h3
  | ret =>
   refine ⟨n + 1, .ret, A1, S1, ?_, h2⟩
   show bE ((ev fns n).code c A S) (pL (.loop c) (ev fns n)) = _
   rw [h1]; rfl
  | exit i =>
   refine ⟨n + 1, .exit i, A1, S1, ?_, h2⟩
   show bE ((ev fns n).code c A S) (pL (.loop c) (ev fns n)) = _
   rw [h1]; rfl
theorem aP {ops : List AO} {A : bT} {S : St} {Q : Out → bT → St → Prop} (h : qM fns ops A.F S fun F' S' => Q .normal ⟨F', A.inr⟩ S') : kH fns (.reg ops) A S Q := by
 obtain ⟨n, F', S', h1, h2⟩ := h
 refine ⟨n + 1, .normal, ⟨F', A.inr⟩, S', ?_, h2⟩
 show bE (rJ ops (ev fns n).call A.F S) _ = _
 rw [h1]; rfl
def aMN (res : List RV) (Q : AV → St → Prop) : Out → bT → St → Prop
 | .exit _, _, _ => False
 | _, A, S => ∃ vs, results res A.F S.h = some vs ∧ Q (oneOf vs) S
theorem cV {id nt : Nat} {res : List RV} {body : AC} {first cap args : List AV} {S : St} {Q : AV → St → Prop} (hfn : fns.get id = some ⟨nt, res, body⟩) (hn : (first ++ (args ++ cap)).length ≤ nt)
  (h : kH fns body ⟨oV (first ++ (args ++ cap)) 0 .e, false⟩ S (aMN res Q)) : iM fns (.fn id first cap) args S Q := by
 obtain ⟨n, o, A', S', h1, h2⟩ := h
 have key : ∀ (_ : ∃ vs, results res A'.F S'.h = some vs ∧ Q (oneOf vs) S') (_ : aDo ⟨nt, res, body⟩ (o, A', S') = bE (results res A'.F S'.h) fun vs => some (oneOf vs, S')), iM fns (.fn id first cap) args S Q := by
  rintro ⟨vs, h3, h4⟩ h5
  refine ⟨n + 1, oneOf vs, S', ?_, h4⟩
  show bE (fns.get id) (fun fn => sO fn (tM first (tM args cap)) (ev fns n) S) = _
  rw [hfn, aE]
  unfold sO
  rw [fM, fM, gG, Ak hn, aF, h1, aE, h5, h3]
  rfl
 cases o with
 | normal => exact key h2 rfl
 | ret => exact key h2 rfl
 | exit i => exact h2.elim
theorem wZ {F : Fr} {S : St} {Q : Fr → St → Prop} : qM fns [] F S Q ↔ Q F S :=
 ⟨fun ⟨_, _, _, h1, h2⟩ => by cases h1; exact h2, fun h => ⟨0, F, S, rfl, h⟩⟩
theorem aAC {o : AO} {l : List AO} {F F1 : Fr} {S S1 : St} {Q : Fr → St → Prop} (h : ∀ call, aAZ o call F S = some (F1, S1)) (hl : qM fns l F1 S1 Q) : qM fns (o :: l) F S Q := by
 obtain ⟨n, F', S', h1, h2⟩ := hl
 refine ⟨n, F', S', ?_, h2⟩
 rw [fW, h, aE]
 exact h1
theorem aH7 {d : Option Nat} {q : uY} {m : Nat} {l : List AO} {F : Fr} {S : St} {Q : Fr → St → Prop} {v : AV} (h : gR q F S.h = some v) (hl : qM fns l (cJ d F v) S Q) : qM fns (⟨d, .q q, none, m⟩ :: l) F S Q :=
 aAC (fun call => by show bE (gR q F S.h) _ = _; rw [h]; rfl) hl
theorem aM2 {d : Option Nat} {a : sG} {m : Nat} {l : List AO} {F : Fr} {S : St} {Q : Fr → St → Prop} {v : AV} {bl : AB} (h : rO a F S.nx = some (v, bl)) (hl : qM fns l (cJ d F v) ⟨S.h.set S.nx (some bl), S.nx + 1⟩ Q) : qM fns (⟨d, .a a, none, m⟩ :: l) F S Q :=
 aAC (fun call => by show bE (rO a F S.nx) _ = _; rw [h]; rfl) hl
theorem fX {d : Option Nat} {x : XOp} {m : Nat} {l : List AO} {F : Fr} {S S1 : St} {Q : Fr → St → Prop} {v : AV} (h : ∀ call, vV x call F S = some (v, S1)) (hl : qM fns l (cJ d F v) S1 Q) : qM fns (⟨d, .x x, none, m⟩ :: l) F S Q :=
 aAC (fun call => by show bE (vV x call F S) _ = _; rw [h]; rfl) hl
theorem bJ {d : Option Nat} {f : cK} {args : List cK} {m : Nat} {l : List AO} {F : Fr} {S : St} {Q : Fr → St → Prop} (h : iM fns (f.val F) (cW args F) S fun v S1 => qM fns l (cJ d F v) S1 Q) : qM fns (⟨d, .x (.call f args), none, m⟩ :: l) F S Q := by
 obtain ⟨n, v, S1, h1, k, F', S', h2, h3⟩ := h
 refine ⟨max n k, F', S', ?_, h3⟩
 rw [fW]
 have : aAZ ⟨d, .x (.call f args), none, m⟩ (ev fns (max n k)).call F S = some (cJ d F v, S1) := by
  show bE ((ev fns (max n k)).call (f.val F) (cW args F) S) _ = _
  rw [(mJ fns (Nat.le_max_left n k)).call _ _ _ _ h1]; rfl
 rw [this, aE]
 exact uC (mJ fns (Nat.le_max_right n k)).call h2
theorem iJ (i : Nat) (F : Fr) : (cK.t i).val F = aC i F := rfl
theorem aEQ (v : AV) (F : Fr) : (cK.c v).val F = v := rfl
theorem gH (F : Fr) (v : AV) : cJ none F v = F := rfl
theorem bL (i j : Nat) (F : Fr) (v : AV) : aC i (cJ (some j) F v) = if i = j then v else aC i F := by
 show aC i (F.set j (some v)) = _
 unfold aC
 rw [T.get_set]
 split <;> rfl
end Go.Ev
namespace Go.Ev
variable {fns : T eJ}
theorem aKl {tbl : List (Nat × Nat × Option (Bool × Nat))} {recv : cK} {args : List cK} {F : Fr} {t f : Nat} {v : AV} (hr : recv.val F = .iface t v) (hf : aAB t tbl = some (f, none)) (call : eI) (S : St) : vV (.inv tbl recv args) call F S = vV (.call (.c (.fn f [v] [])) args) call F S := by
 show aFU (recv.val F) tbl (cW args F) call S = call (.fn f [v] []) (cW args F) S
 rw [hr]
 show bE (aAB t tbl) (fun r => aFq r v (cW args F) call S) = _
 rw [hf, aE]
 rfl
end Go.Ev
namespace Go.Ev
def Same (S S' : St) : Prop := S.nx ≤ S'.nx ∧ ∀ b, b < S.nx → S'.h.get b = S.h.get b
theorem Same.refl (S : St) : Same S S := ⟨Af _, fun _ _ => rfl⟩
theorem Same.trans {S S' S'' : St} (h : Same S S') (h' : Same S' S'') : Same S S'' := ⟨Al h.1 h'.1, fun b hb => (h'.2 b (Ae hb h.1)).trans (h.2 b hb)⟩
theorem Same.alloc (S : St) (bl : AB) : Same S ⟨S.h.set S.nx (some bl), S.nx + 1⟩ := ⟨Nat.le_succ _, fun b hb => by simp only; rw [T.get_set, if_neg (by omega)]⟩
theorem Same.put {S S' : St} {b : Nat} (h : Same S S') (hb : S.nx ≤ b) (x : Option AB) : Same S ⟨S'.h.set b x, S'.nx⟩ := ⟨h.1, fun c hc => by simp only; rw [T.get_set, if_neg (by omega)]; exact h.2 c hc⟩
def bO (k : IntKind) (S : St) (v : AV) (l : List Int) : Prop :=
 (l = [] ∧ (v = .nilsl ∨ v = .emp)) ∨ ∃ b off cap o cs, v = .sl b off l.length cap o ∧ l.length ≤ cap ∧ b < S.nx ∧ cP S.h b = some cs ∧ ∀ i x, l[i]? = some x → cs[off + i]? = some (.int k x)
theorem qF {S S' : St} (h : Same S S') {b : Nat} (hb : b < S.nx) : cP S'.h b = cP S.h b := by unfold cP; rw [h.2 b hb]
theorem bO.same {k : IntKind} {S S' : St} {v : AV} {l : List Int} (h : bO k S v l) (hs : Same S S') : bO k S' v l := by
 rcases h with h | ⟨b, off, cap, o, cs, h1, hc, h2, h3, h4⟩
 ·exact .inl h
 ·exact .inr ⟨b, off, cap, o, cs, h1, hc, Ae h2 hs.1, by rw [qF hs h2]; exact h3, h4⟩
theorem bO.len {k : IntKind} {S : St} {v : AV} {l : List Int} (h : bO k S v l) : lW v = some (.int .i64 (.ofNat l.length)) := by
 rcases h with ⟨rfl, rfl | rfl⟩ | ⟨b, off, cap, o, cs, rfl, _⟩ <;> rfl
def zZ (v : AV) (i : Nat) : AV :=
 match v with
 | .sl b off _ _ _ => .ptr b (off + i * 1)
 | _ => .undef
theorem bO.iaddr {k : IntKind} {S : St} {v : AV} {l : List Int} (h : bO k S v l) {i : Nat} (hi : i < l.length) : eT (.slice 1) v i = some (zZ v i) := by
 rcases h with ⟨rfl, _⟩ | ⟨b, off, cap, o, cs, rfl, _⟩
 ·simp at hi
 ·simp only [eT, zZ]
  have : Nat.blt i l.length = true := Ak hi
  rw [this, aF]
theorem bO.ld {k : IntKind} {S : St} {v : AV} {l : List Int} (h : bO k S v l) {i : Nat} (hi : i < l.length) : fH (zZ v i) false 1 S.h = some (.int k (l.getD i 0)) := by
 rcases h with ⟨rfl, _⟩ | ⟨b, off, cap, o, cs, rfl, hc, hb, hcs, hel⟩
 ·simp at hi
 ·simp only [zZ, fH, oD, aL, mS, hcs, aE, qP, Ee]
  rw [hel i l[i] (Ab hi)]
  simp [Ac, hi]
theorem aDx (e : vC) (k : IntKind) (a b : Int) : lE .add e (.int k a) (.int k b) = some (.int k (k.wrap (a + b))) := by
 show dS .add k a k b = _
 unfold dS
 rw [show fG .add = false from rfl, aL, gK, aF]
 show some (AV.int k (aJz k a b)) = _
 rw [aEC]
theorem aDu (e : vC) (k : IntKind) (a b : Int) : lE .sub e (.int k a) (.int k b) = some (.int k (k.wrap (a - b))) := by
 show dS .sub k a k b = _
 unfold dS
 rw [show fG .sub = false from rfl, aL, gK, aF]
 show some (AV.int k (aE8 k a b)) = _
 rw [wR]
theorem aCW (e : vC) (k : IntKind) (a b : Int) : lE .mul e (.int k a) (.int k b) = some (.int k (k.wrap (a * b))) := by
 show dS .mul k a k b = _
 unfold dS
 rw [show fG .mul = false from rfl, aL, gK, aF]
 show some (AV.int k (aGc k a b)) = _
 rw [aBr]
theorem aDk (e : vC) (k : IntKind) (a b : Int) : lE .lss e (.int k a) (.int k b) = some (.bool (decide (a < b))) := by
 show dS .lss k a k b = _
 unfold dS
 rw [show fG .lss = false from rfl, aL, gK, aF]
 show some (AV.bool (bQ (ile b a) false true)) = _
 rw [nI, oH]
 congr 2
 rw [Ce]; simp
theorem aDA (e : vC) (k : IntKind) (a b : Int) : lE .leq e (.int k a) (.int k b) = some (.bool (decide (a ≤ b))) := by
 show dS .leq k a k b = _
 unfold dS
 rw [show fG .leq = false from rfl, aL, gK, aF]
 show some (AV.bool (ile a b)) = _
 rw [nI]
theorem aC8 (e : vC) (k : IntKind) (a b : Int) : lE .gtr e (.int k a) (.int k b) = some (.bool (decide (b < a))) := by
 show dS .gtr k a k b = _
 unfold dS
 rw [show fG .gtr = false from rfl, aL, gK, aF]
 show some (AV.bool (bQ (ile a b) false true)) = _
 rw [nI, oH]
 congr 2
 rw [Ce]; simp
theorem aC6 (e : vC) (k : IntKind) (a b : Int) : lE .geq e (.int k a) (.int k b) = some (.bool (decide (b ≤ a))) := by
 show dS .geq k a k b = _
 unfold dS
 rw [show fG .geq = false from rfl, aL, gK, aF]
 show some (AV.bool (ile b a)) = _
 rw [nI]
theorem aAq (e : vC) (k : IntKind) (a b : Int) : lE .eql e (.int k a) (.int k b) = some (.bool (decide (a = b))) := by
 show dS .eql k a k b = _
 unfold dS
 rw [show fG .eql = false from rfl, aL, gK, aF]
 show some (AV.bool (ieq a b)) = _
 rw [lU]
 congr 2
theorem aCV (e : vC) (k : IntKind) (a b : Int) : lE .neq e (.int k a) (.int k b) = some (.bool (decide (a ≠ b))) := by
 show dS .neq k a k b = _
 unfold dS
 rw [show fG .neq = false from rfl, aL, gK, aF]
 show some (AV.bool (bQ (ieq a b) false true)) = _
 rw [lU, oH]
 congr 2
 rw [Ce]; simp
section
variable (F : Fr) (h : T AB)
theorem aFw (x : cK) : gR (.mv x) F h = some (x.val F) := rfl
theorem aC0 (op : BinOp) (e : vC) (x y : cK) : gR (.bin op e x y) F h = lE op e (x.val F) (y.val F) := rfl
theorem aFL (op : UnOp) (x : cK) : gR (.un op x) F h = unV op (x.val F) := rfl
theorem yZ (x : cK) : gR (.lenSl x) F h = lW (x.val F) := rfl
theorem xP (k : IxK) (x ix : cK) : gR (.iaddr k x ix) F h = bE (eX (ix.val F)) fun i => eT k (x.val F) i := rfl
theorem xZ (agg : Bool) (n : Nat) (x : cK) : gR (.ld agg n x) F h = fH (x.val F) agg n h := rfl
theorem aBA (k : aGg) (x : cK) : gR (.conv k x) F h = aA5 k (x.val F) h := rfl
theorem rS (x : cK) (i : Nat) : gR (.extract x i) F h = lP (x.val F) i := rfl
theorem iB (c a b : cK) : gR (.pick c a b) F h = rR (c.val F) a b F := rfl
theorem aDb (agg : Bool) (off n : Nat) (x : cK) : gR (.fld agg off n x) F h = aFg (x.val F) agg off n := rfl
end
theorem aG (k : IntKind) (n : Nat) : eX (.int k (n : Int)) = some n := rfl
theorem aBK (k j : IntKind) (n : Int) (h : T AB) : aA5 (.int k) (.int j n) h = some (.int k (k.wrap n)) := by
 show some (AV.int k (aCa k n)) = _
 rw [sK]
end Go.Ev
namespace Go.Ev
variable {fns : T eJ}
def kD {α : Type} (x : Option α) (Q : α → Prop) : Prop := ∃ a, x = some a ∧ Q a
theorem dP {α : Type} (a : α) (Q : α → Prop) : kD (some a) Q = Q a := propext ⟨fun ⟨_, h1, h2⟩ => by cases h1; exact h2, fun h => ⟨a, rfl, h⟩⟩
theorem aFH {d : Option Nat} {q : uY} {m : Nat} {l : List AO} {F : Fr} {S : St} {Q : Fr → St → Prop} : qM fns (⟨d, .q q, none, m⟩ :: l) F S Q ↔ kD (gR q F S.h) fun v => qM fns l (cJ d F v) S Q := by
 constructor
 ·rintro ⟨n, F', S', h1, h2⟩
  rw [fW] at h1
  obtain ⟨r, h3, h4⟩ := aK h1
  obtain ⟨v, h5, h6⟩ := aK (show bE (gR q F S.h) (fun v => some (cJ d F v, S)) = some r from h3)
  cases h6
  exact ⟨v, h5, n, F', S', h4, h2⟩
 ·rintro ⟨v, h1, h2⟩
  exact aH7 h1 h2
theorem yF {d : Option Nat} {a : sG} {m : Nat} {l : List AO} {F : Fr} {S : St} {Q : Fr → St → Prop} : qM fns (⟨d, .a a, none, m⟩ :: l) F S Q ↔ kD (rO a F S.nx) fun r => qM fns l (cJ d F r.1) ⟨S.h.set S.nx (some r.2), S.nx + 1⟩ Q := by
 constructor
 ·rintro ⟨n, F', S', h1, h2⟩
  rw [fW] at h1
  obtain ⟨r, h3, h4⟩ := aK h1
  obtain ⟨v, h5, h6⟩ := aK (show bE (rO a F S.nx) (fun r => some (cJ d F r.1, (⟨S.h.set S.nx (some r.2), Nat.succ S.nx⟩ : St))) = some r from h3)
  cases h6
  exact ⟨v, h5, n, F', S', h4, h2⟩
 ·rintro ⟨⟨v, bl⟩, h1, h2⟩
  exact aM2 h1 h2
def uN (fns : T eJ) (ops : List AO) (i base : Nat) (D : DS) (Q : DS → Prop) : Prop := ∃ n D', rQ ops i base (ev fns n).call D = some D' ∧ Q D'
theorem qD {ops : List AO} {A : bT} {S : St} {Q : Out → bT → St → Prop} (h : uN fns ops 0 S.nx ⟨A.F, ⟨S.h, S.nx + ops.length⟩, [], [], []⟩ fun D => fE S.h D.hs.reverse D.ls = true ∧ Q .normal ⟨D.F, A.inr⟩ ⟨(cD (2 ^ ops.length - 1) D.ps D.S.h).2, D.S.nx⟩) : kH fns (.drw ops) A S Q := by
 obtain ⟨n, D, h1, h2, h3⟩ := h
 refine ⟨n + 1, .normal, ⟨D.F, A.inr⟩, ⟨(cD (2 ^ ops.length - 1) D.ps D.S.h).2, D.S.nx⟩, ?_, h3⟩
 show bE (bE (rQ ops 0 S.nx (ev fns n).call ⟨A.F, ⟨S.h, S.nx + jY ops⟩, [], [], []⟩) fun D => xE S.h (jY ops) D) _ = _
 rw [gG, h1, aE]
 unfold xE
 rw [h2, aF]
 rfl
theorem jR {i base : Nat} {D : DS} {Q : DS → Prop} : uN fns [] i base D Q ↔ Q D :=
 ⟨fun ⟨_, _, h1, h2⟩ => by cases h1; exact h2, fun h => ⟨0, D, rfl, h⟩⟩
theorem iU {d : Option Nat} {q : uY} {m i base : Nat} {l : List AO} {D : DS} {Q : DS → Prop} : uN fns (⟨d, .q q, none, m⟩ :: l) i base D Q ↔
  kD (gR q D.F D.S.h) fun v => uN fns l (i + 1) base ⟨cJ d D.F v, D.S, D.ps, D.hs, bQ (dH q) (⟨q, D.F, v, i, m⟩ :: D.ls) D.ls⟩ Q := by
 constructor
 ·rintro ⟨n, D', h1, h2⟩
  obtain ⟨r, h3, h4⟩ := aK (show bE (oK ⟨d, .q q, none, m⟩ i base (ev fns n).call D) (fun D' => rQ l (i + 1) base (ev fns n).call D') = some D' from h1)
  obtain ⟨v, h5, h6⟩ := aK (show bE (gR q D.F D.S.h) (fun v => some (⟨cJ d D.F v, D.S, D.ps, D.hs, bQ (dH q) (⟨q, D.F, v, i, m⟩ :: D.ls) D.ls⟩ : DS)) = some r from h3)
  cases h6
  exact ⟨v, h5, n, D', h4, h2⟩
 ·rintro ⟨v, h1, n, D', h2, h3⟩
  refine ⟨n, D', ?_, h3⟩
  show bE (bE (gR q D.F D.S.h) _) _ = _
  rw [h1]
  exact h2
theorem aDm {d : Option Nat} {a : sG} {m i base : Nat} {l : List AO} {D : DS} {Q : DS → Prop} : uN fns (⟨d, .a a, none, m⟩ :: l) i base D Q ↔
  kD (rO a D.F (base + i)) fun r => uN fns l (i + 1) base ⟨cJ d D.F r.1, D.S, ⟨i, base + i, r.2⟩ :: D.ps, D.hs, D.ls⟩ Q := by
 constructor
 ·rintro ⟨n, D', h1, h2⟩
  obtain ⟨r, h3, h4⟩ := aK (show bE (oK ⟨d, .a a, none, m⟩ i base (ev fns n).call D) (fun D' => rQ l (i + 1) base (ev fns n).call D') = some D' from h1)
  obtain ⟨v, h5, h6⟩ := aK (show bE (rO a D.F (base + i)) (fun r => some (⟨cJ d D.F r.1, D.S, ⟨i, base + i, r.2⟩ :: D.ps, D.hs, D.ls⟩ : DS)) = some r from h3)
  cases h6
  exact ⟨v, h5, n, D', h4, h2⟩
 ·rintro ⟨r, h1, n, D', h2, h3⟩
  refine ⟨n, D', ?_, h3⟩
  show bE (bE (rO a D.F (base + i)) _) _ = _
  rw [h1]
  exact h2
theorem kE {d : Option Nat} {x : XOp} {m i base : Nat} {l : List AO} {D : DS} {Q : DS → Prop} {v : AV} {S1 : St} (hl : iQ D.hs m = true) (h : ∀ call, vV x call D.F ⟨(cD m D.ps D.S.h).2, D.S.nx⟩ = some (v, S1))
  (hq : uN fns l (i + 1) base ⟨cJ d D.F v, S1, (cD m D.ps D.S.h).1, (i, m, S1.h) :: D.hs, D.ls⟩ Q) : uN fns (⟨d, .x x, none, m⟩ :: l) i base D Q := by
 obtain ⟨n, D', h2, h3⟩ := hq
 refine ⟨n, D', ?_, h3⟩
 show bE (bQ (iQ D.hs m) (bE (vV x (ev fns n).call D.F ⟨(cD m D.ps D.S.h).2, D.S.nx⟩) _) none) _ = _
 rw [hl, aF, h]
 exact h2
theorem aBu {d : Option Nat} {f : cK} {args : List cK} {m i base : Nat} {l : List AO} {D : DS} {Q : DS → Prop} (hl : iQ D.hs m = true)
  (h : iM fns (f.val D.F) (cW args D.F) ⟨(cD m D.ps D.S.h).2, D.S.nx⟩ fun v S1 => uN fns l (i + 1) base ⟨cJ d D.F v, S1, (cD m D.ps D.S.h).1, (i, m, S1.h) :: D.hs, D.ls⟩ Q) : uN fns (⟨d, .x (.call f args), none, m⟩ :: l) i base D Q := by
 obtain ⟨n, v, S1, h1, k, D', h2, h3⟩ := h
 refine ⟨max n k, D', ?_, h3⟩
 show bE (bQ (iQ D.hs m) (bE ((ev fns (max n k)).call (f.val D.F) (cW args D.F) ⟨(cD m D.ps D.S.h).2, D.S.nx⟩) _) none) _ = _
 rw [hl, aF, (mJ fns (Nat.le_max_left n k)).call _ _ _ _ h1]
 exact pN (mJ fns (Nat.le_max_right n k)).call h2
theorem aIL {d : Option Nat} {op : AOp} {s : Nat} {b : Bool} {m i base : Nat} {l : List AO} {D : DS} {Q : DS → Prop} (hg : aC s D.F = .bool b) (hl : uN fns (⟨d, op, none, m⟩ :: l) i base D Q) : uN fns (⟨d, op, some (s, b), m⟩ :: l) i base D Q := by
 obtain ⟨n, D', h1, h2⟩ := hl
 refine ⟨n, D', ?_, h2⟩
 have : oK ⟨d, op, some (s, b), m⟩ i base (ev fns n).call D = oK ⟨d, op, none, m⟩ i base (ev fns n).call D := by
  unfold oK
  have e1 : eH (some (s, b)) D.F = true := by show isB (aC s D.F) b = true; rw [hg]; cases b <;> rfl
  have e2 : eH none D.F = true := rfl
  simp only [e1, e2]
  cases op <;> rfl
 show bE (oK ⟨d, op, some (s, b), m⟩ i base (ev fns n).call D) _ = _
 rw [this]
 exact h1
theorem dO (k : IntKind) (a : Int) : cO (.int k a) (.int k a) = true := by simp [cO, cH, gK, lU]
theorem yA (a : Bool) : cO (.bool a) (.bool a) = true := by simp [cO, tI]
theorem aA9 (a b : Nat) : cO (.ptr a b) (.ptr a b) = true := by simp [cO, cH, Bd]
theorem mK (a b c d : Nat) (o : Bool) : cO (.sl a b c d o) (.sl a b c d o) = true := by simp [cO, Bd, tI]
theorem uW : cO .nilsl .nilsl = true := rfl
end Go.Ev
namespace Go.Ev
def wT (S : St) : Prop := ∀ b, S.nx ≤ b → S.h.get b = none
def Frs (S S' : St) : Prop := (wT S → wT S') ∧ S.nx ≤ S'.nx
theorem aG1 (S : St) (x : Option AB) : Frs S ⟨S.h.set S.nx x, S.nx + 1⟩ :=
 ⟨fun h c hc => by simp only at hc ⊢; rw [T.get_set, if_neg (by omega)]; exact h c (by omega), Nat.le_succ _⟩
end Go.Ev
namespace Go.Ev
variable {P : Program} {σ : Env} {S : St} {w : World}
def aDf : List (Nat × Nat × IntKind × Int) → AC
 | [] => .seq (.reg [⟨some 0, .q (.mv (.c (.bool true))), none, 0⟩]) .ret
 | (g, j, k, z) :: l => .seq (.reg [⟨some 1, .q (.ld false 1 (.c (.ptr g j))), none, 0⟩, ⟨some 2, .q (.bin .eql (.p .int) (.t 1) (.c (.int k z))), none, 0⟩]) (.seq (.cond (.t 2) .skip (.exit 0)) (aDf l))
def xN (l : List (Nat × Nat × IntKind × Int)) : eJ := ⟨0, [.t 0], aDf l⟩
theorem aF7 {fns : T eJ} {Q : Out → bT → St → Prop} (hQ : ∀ A, aC 0 A.F = .bool true → Q .ret A S) : ∀ {l : List (Nat × Nat × IntKind × Int)} {A : bT}, (∀ c ∈ l, mS S.h c.1 c.2.1 = some (.int c.2.2.1 c.2.2.2)) → kH fns (aDf l) A S Q
 | [], A, _ => by
  refine aD (aP ?_)
  rw [aFH]
  exact ⟨.bool true, rfl, (wZ).2 (bD (hQ _ (by rw [bL, if_pos rfl])))⟩
 | (g, j, k, z) :: l, A, h => by
  have h1 := h (g, j, k, z) (by simp)
  simp only at h1
  refine aD (aP (aH7 (v := .int k z) h1 (aH7 (v := .bool true) ?_ (wZ.2 ?_))))
  ·show lE .eql (.p .int) (aC 1 (cJ (some 1) A.F (.int k z))) (.int k z) = _
   rw [bL, if_pos rfl, aAq, Ad rfl]
  refine aD (aFS (t := true) (by show aC 2 _ = _; rw [bL, if_pos rfl]) (fun _ => aN ?_) (fun h => by cases h))
  exact aF7 hQ fun c hc => h c (by simp [hc])
theorem aIm {fns : T eJ} {id : Nat} {l : List (Nat × Nat × IntKind × Int)} (hfn : fns.get id = some (xN l)) (h : ∀ c ∈ l, mS S.h c.1 c.2.1 = some (.int c.2.2.1 c.2.2.2)) : iM fns (.fn id [] []) [] S fun r S' => r = .bool true ∧ S' = S := by
 refine cV hfn (by simp) (aF7 (fun A hA => ?_) h)
 exact ⟨[aC 0 A.F], rfl, by rw [hA]; rfl, rfl⟩
theorem aDs {v : AV} {k : IntKind} {z : Int} (h : lE .eql (.p .int) v (.int k z) = some (.bool true)) : v = .int k z := by
 cases v with
 | int k' z' =>
  have h' : dS .eql k' z' k z = some (.bool true) := h
  unfold dS at h'
  rw [show fG .eql = false from rfl, aL] at h'
  obtain ⟨hk, h'⟩ := cG h'
  have hz : some (AV.bool (ieq z' z)) = some (.bool true) := h'
  simp only [Ar, AV.bool.injEq] at hz
  rw [lU] at hz
  have hz := eq_of_beq hz
  subst hz
  have hkk : k' = k := by
   cases k <;> cases k' <;> first | rfl | (exfalso; revert hk; decide)
  rw [hkk]
 | _ => cases h
theorem aD2 {fns : T eJ} : ∀ {l : List (Nat × Nat × IntKind × Int)} {n : Nat} {A A' : bT} {S' : St} {o : Out}, (ev fns n).code (aDf l) A S = some (o, A', S') → (∀ i, o ≠ .exit i) → (∀ c ∈ l, mS S.h c.1 c.2.1 = some (.int c.2.2.1 c.2.2.2)) ∧ S' = S ∧ aC 0 A'.F = .bool true
 | l, 0, _, _, _, _, h, _ => by cases h
 | l, 1, A, A', S', o, h, _ => by
  cases l with
  | nil =>
   have h' : (none : Option (Out × bT × St)) = some (o, A', S') := h
   cases h'
  | cons c l =>
   obtain ⟨g, j, k, z⟩ := c
   have h' : (none : Option (Out × bT × St)) = some (o, A', S') := h
   cases h'
 | [], n + 2, A, A', S', o, h, ho => by
  obtain ⟨⟨o1, A1, S1⟩, h1, h2⟩ := aK (show bE ((ev fns (n + 1)).code (.reg [⟨some 0, .q (.mv (.c (.bool true))), none, 0⟩]) A S) (pL .ret (ev fns (n + 1))) = some (o, A', S') from h)
  have e1 : (ev fns (n + 1)).code (.reg [⟨some 0, .q (.mv (.c (.bool true))), none, 0⟩]) A S = some (.normal, ⟨cJ (some 0) A.F (.bool true), A.inr⟩, S) := rfl
  rw [e1] at h1
  cases h1
  have e2 : pL .ret (ev fns (n + 1)) (.normal, ⟨cJ (some 0) A.F (.bool true), A.inr⟩, S) = some (.ret, ⟨cJ (some 0) A.F (.bool true), A.inr⟩, S) := rfl
  rw [e2] at h2
  cases h2
  exact ⟨fun c hc => (by cases hc), rfl, by rw [bL, if_pos rfl]⟩
 | (g, j, k, z) :: l, n + 2, A, A', S', o, h, ho => by
  obtain ⟨⟨o1, A1, S1⟩, h1, h2⟩ := aK (show bE ((ev fns (n + 1)).code (.reg [⟨some 1, .q (.ld false 1 (.c (.ptr g j))), none, 0⟩, ⟨some 2, .q (.bin .eql (.p .int) (.t 1) (.c (.int k z))), none, 0⟩]) A S) (pL (.seq (.cond (.t 2) .skip (.exit 0)) (aDf l)) (ev fns (n + 1))) = some (o, A', S') from h)
  obtain ⟨⟨F1, S2⟩, h3, h4⟩ := aK (show bE (rJ [⟨some 1, .q (.ld false 1 (.c (.ptr g j))), none, 0⟩, ⟨some 2, .q (.bin .eql (.p .int) (.t 1) (.c (.int k z))), none, 0⟩] (ev fns n).call A.F S) (fun r => some (.normal, (⟨r.1, A.inr⟩ : bT), r.2)) = some (o1, A1, S1) from h1)
  cases h4
  rw [fW] at h3
  obtain ⟨⟨F2, S3⟩, h5, h6⟩ := aK h3
  obtain ⟨v, hv, h7⟩ := aK (show bE (mS S.h g j) (fun v => some (cJ (some 1) A.F v, S)) = some (F2, S3) from h5)
  cases h7
  rw [fW] at h6
  obtain ⟨⟨F4, S4⟩, h8, h9⟩ := aK h6
  cases h9
  obtain ⟨b, hb, h10⟩ := aK (show bE (lE .eql (.p .int) (aC 1 (cJ (some 1) A.F v)) (.int k z)) (fun u => some (cJ (some 2) (cJ (some 1) A.F v) u, S)) = some (F4, S4) from h8)
  cases h10
  rw [bL, if_pos rfl] at hb
  have h2 : (ev fns (n + 1)).code (.seq (.cond (.t 2) .skip (.exit 0)) (aDf l)) ⟨cJ (some 2) (cJ (some 1) A.F v) b, A.inr⟩ S = some (o, A', S') := h2
  obtain ⟨⟨o5, A5, S5⟩, k1, k2⟩ := aK (show bE ((ev fns n).code (.cond (.t 2) .skip (.exit 0)) ⟨cJ (some 2) (cJ (some 1) A.F v) b, A.inr⟩ S) (pL (aDf l) (ev fns n)) = some (o, A', S') from h2)
  cases n with
  | zero => cases k1
  | succ n =>
   have k1 : zG (aC 2 (cJ (some 2) (cJ (some 1) A.F v) b)) .skip (.exit 0) (ev fns n) ⟨cJ (some 2) (cJ (some 1) A.F v) b, A.inr⟩ S = some (o5, A5, S5) := k1
   rw [bL, if_pos rfl] at k1
   cases b with
   | bool t =>
    have k1 : (ev fns n).code (bQ t .skip (.exit 0)) ⟨cJ (some 2) (cJ (some 1) A.F v) (.bool t), A.inr⟩ S = some (o5, A5, S5) := k1
    cases t with
    | true =>
     rw [aF] at k1
     cases n with
     | zero => cases k1
     | succ n =>
      have e : (ev fns (n + 1)).code .skip ⟨cJ (some 2) (cJ (some 1) A.F v) (.bool true), A.inr⟩ S = some (.normal, ⟨cJ (some 2) (cJ (some 1) A.F v) (.bool true), A.inr⟩, S) := rfl
      rw [e] at k1
      cases k1
      have ih := aD2 (l := l) (show (ev fns (n + 1 + 1)).code (aDf l) _ S = some (o, A', S') from k2) ho
      refine ⟨fun c hc => ?_, ih.2⟩
      rcases Br.1 hc with rfl | hc
      ·rw [hv, aDs hb]
      ·exact ih.1 c hc
    | false =>
     rw [aL] at k1
     cases n with
     | zero => cases k1
     | succ n =>
      have e : (ev fns (n + 1)).code (.exit 0) ⟨cJ (some 2) (cJ (some 1) A.F v) (.bool false), A.inr⟩ S = some (.exit 0, ⟨cJ (some 2) (cJ (some 1) A.F v) (.bool false), A.inr⟩, S) := rfl
      rw [e] at k1
      cases k1
      have k2 : some (Out.exit 0, (⟨cJ (some 2) (cJ (some 1) A.F v) (.bool false), A.inr⟩ : bT), S) = some (o, A', S') := k2
      cases k2
      exact absurd rfl (ho 0)
   | _ => cases k1
theorem aGL {fns : T eJ} {l : List (Nat × Nat × IntKind × Int)} {n : Nat} {S' : St} {v : AV} (h : sO (xN l) [] (ev fns n) S = some (v, S')) : (∀ c ∈ l, mS S.h c.1 c.2.1 = some (.int c.2.2.1 c.2.2.2)) ∧ S' = S ∧ v = .bool true := by
 unfold sO at h
 obtain ⟨_, h⟩ := cG h
 obtain ⟨⟨o, A', S1⟩, h1, h2⟩ := aK h
 unfold aDo at h2
 split at h2
 ·cases h2
 ·rename_i hne
  obtain ⟨vs, h3, h4⟩ := aK h2
  cases h4
  obtain ⟨k1, k2, k3⟩ := aD2 (show (ev fns n).code (aDf l) ⟨.e, false⟩ S = some (o, A', S1) from h1) (fun i e => hne i e)
  refine ⟨k1, k2, ?_⟩
  have : some [aC 0 A'.F] = some vs := h3
  cases this
  exact k3
def aAF : Nat → Nat → List (IntKind × Int) → List (Nat × Nat × IntKind × Int)
 | _, _, [] => []
 | g, j, (k, z) :: l => (g, j, k, z) :: aAF g (j + 1) l
theorem aAz : ∀ {l : List (IntKind × Int)} {g j i : Nat} {k : IntKind} {z : Int}, l[i]? = some (k, z) → (g, j + i, k, z) ∈ aAF g j l
 | [], _, _, _, _, _, h => by simp at h
 | (k, z) :: l, g, j, 0, k', z', h => by
  simp at h
  obtain ⟨rfl, rfl⟩ := h
  simp [aAF]
 | (k, z) :: l, g, j, i + 1, k', z', h => by
  have := aAz (g := g) (j := j + 1) (show l[i]? = some (k', z') by simpa using h)
  rw [show j + (i + 1) = j + 1 + i by omega]
  exact Bg _ this
def lH : List (Nat × List (IntKind × Int)) → List (Nat × Nat × IntKind × Int)
 | [] => []
 | (g, l) :: r => aAF g 0 l ++ lH r
theorem vW : ∀ {t : List (Nat × List (IntKind × Int))} {g : Nat} {l : List (IntKind × Int)}, (g, l) ∈ t → ∀ c ∈ aAF g 0 l, c ∈ lH t
 | (g', l') :: t, g, l, h, c, hc => by
  simp only [lH, Bh]
  rcases Br.1 h with h | h
  ·cases h; exact .inl hc
  ·exact .inr (vW h c hc)
theorem aDP (hR : kT P σ S w) {t : List (Nat × List (IntKind × Int))} (hg : ∀ x ∈ t, x.1 < P.globals.size ∧ x.2 ≠ []) (h : ∀ c ∈ lH t, mS S.h c.1 c.2.1 = some (.int c.2.2.1 c.2.2.2)) : aI9 P (t.map fun x => (x.1, x.2.map fun y => AV.int y.1 y.2)) w := by
 intro x hx
 obtain ⟨⟨g, l⟩, hgl, rfl⟩ := Dr.1 hx
 obtain ⟨h1, h2⟩ := hg _ hgl
 have hc : ∀ i k z, l[i]? = some (k, z) → mS S.h g i = some (.int k z) := fun i k z hi => by
  have := h _ (vW hgl _ (aAz (g := g) (j := 0) hi))
  simpa using this
 obtain ⟨⟨k0, z0⟩, l', rfl⟩ : ∃ a l', l = a :: l' := by cases l with | nil => exact absurd rfl h2 | cons a l' => exact ⟨a, l', rfl⟩
 have h0 := hc 0 k0 z0 rfl
 unfold mS cP at h0
 obtain ⟨cs, h3, h4⟩ := aK h0
 obtain ⟨bl, h5, h6⟩ := aK h3
 obtain ⟨L, h7, h8, h9⟩ := hR.blk g bl h5
 rw [hR.glob g h1] at h7
 cases h7
 have hcs : ∀ i k z, ((k0, z0) :: l')[i]? = some (k, z) → cs[i]? = some (AV.int k z) := fun i k z hi => by
  have := hc i k z hi
  unfold mS cP at this
  rw [h5, aE, h6, aE, qP] at this
  exact this
 have key : ∀ Cs, gO P σ cs Cs → w.rangeAt g 0 Cs → ∃ Ds, gO P (aAX P) (((k0, z0) :: l').map fun y => AV.int y.1 y.2) Ds ∧ (∀ u ∈ Ds, u.oneCell' = true) ∧ w.rangeAt g 0 Ds := by
  intro Cs hC hr
  refine ⟨((k0, z0) :: l').map fun y => Value.int y.1 y.2, ?_, fun u hu => ?_, fun j v hv => ?_⟩
  ·clear hcs hc hg h h0 hgl hx h2
   generalize (k0, z0) :: l' = m
   induction m with
   | nil => exact dD.2 rfl
   | cons a m ih => exact dE.2 ⟨_, _, rfl, by simp only [Rv], ih⟩
  ·obtain ⟨y, _, rfl⟩ := Dr.1 hu
   rfl
  ·rw [Bc, Aw] at hv
   obtain ⟨⟨k, z⟩, hkz, rfl⟩ := hv
   have h10 := hcs j k z hkz
   obtain ⟨V, hV, hVV⟩ := hC.get h10
   simp only [Rv] at hVV
   rw [← hVV]
   exact hr j V hV
 refine ⟨h1, by simpa using h8, ?_⟩
 cases bl with
 | cells ds o s =>
  simp only [nO, Ar] at h6
  subst h6
  obtain ⟨Cs, q1, _, q3, _⟩ := h9
  exact key Cs q1 q3
 | ro ds =>
  simp only [nO, Ar] at h6
  subst h6
  obtain ⟨Cs, q1, _, q3⟩ := h9
  exact key Cs q1 q3
 | _ => cases h6
theorem aDj {l : List (Nat × List AV)} {σ' : Env} {S' : St} {w' : World} (hR : kT P σ S w) (h : jI P (aAX P) (stL P l) w σ' S' w') : jI P σ S w σ S w' := by
 have hk : ∀ r, r < w.heap.size → w'.heap[r]? = w.heap[r]? := fun r hr => h.keep r hr (aNN r)
 refine ⟨⟨fun b bl hb => ?_, hR.lt, hR.fresh, hR.glob, hR.inj⟩, fun _ _ => rfl, Af _, fun r hr _ => hk r hr, fun _ ho => .inl ho, h.size, h.os, h.tape, h.output, fun _ _ hb => hb⟩
 obtain ⟨L, q1, q2, q3⟩ := hR.blk b bl hb
 exact ⟨L, q1, Ae q2 h.size, q3.frame (fun _ _ x => x) (hk _ q2)⟩
theorem aBW {fns : T eJ} {id nt : Nat} {res : List RV} {c : AC} {Fn : Func} {t : List (Nat × List (IntKind × Int))} {l : List (Nat × List AV)} (hFn : P.funcs[id]? = some Fn) (hc : cFn P Fn = some ⟨nt, res, c⟩) (hl : l = t.map fun x => (x.1, x.2.map fun y => AV.int y.1 y.2)) (hg : ∀ x ∈ t, x.1 < P.globals.size ∧ x.2 ≠ [])
  (h : Good P c ⟨.e, false⟩ (stL P l) fun o A S => aGM res o A S = some true) : aGs P fns id (xN (lH t)) := by
 obtain ⟨C, c', rs, hbody, hname, hC, hrs, heq⟩ := aEb hc
 cases heq
 refine ⟨rfl, ⟨Fn, C, hFn, hbody, hname⟩, fun n S S' v hrun σ w fv hf hR => ?_⟩
 obtain ⟨hloads, hS', hv⟩ := aGL hrun
 subst hS'; subst hv
 have hT : aI9 P l w := by rw [hl]; exact aDP hR hg hloads
 simp only [Rv] at hf
 obtain ⟨A, B, rfl, hA, hB⟩ := hf
 have hA := dD.1 hA
 have hB := dD.1 hB
 subst hA; subst hB
 rw [rC hFn hbody hname]
 show CallsIn Fence.wide 0 P id ⟨[] ++ ([] ++ [])⟩ w _
 refine callsIn_of_wp_marks hFn hbody trivial ?_
 obtain ⟨hfr, hsz⟩ := aAJ (P := P) (σ := aAX P) (args := []) (Args := []) (dD.2 rfl) (nt := Fn.ntmps) (Ci _)
 rw [← aGo]
 refine h none 0 Fn.ntmps C hC (fun _ => rfl) w.heap.size (aAX P) _ w _ hsz Df.nil (Af _) hfr (aMo hT) ?_
 intro o A' S2 σ' a' w' hret hinr hsz' hdf hfr' hext
 obtain ⟨hoo, hres⟩ := aGV hret
 obtain ⟨_, rks, hd, hnd, hmk⟩ := hdf
 have fin : ∀ w'', jI P (aAX P) (stL P l) w σ' S2 w'' → ∃ V, (Go.results Fn a'.tmps).run P w'' = .ok V w'' ∧ ∃ σ', Rv P σ' (.bool true) V ∧ jI P σ S' w σ' S' w'' := fun w'' hx => by
  obtain ⟨Vs, h8, h9⟩ := mG hx.rep hfr' hrs hres
  refine ⟨if h : Vs.toArray.size = 1 then Vs.toArray[0] else .tuple Vs.toArray, ?_, σ, ?_, aDj hR hx⟩
  ·show ((do let vs ← Fn.results.mapM (aCp a'.tmps); pure (if h : vs.size = 1 then vs[0] else .tuple vs) : Sem Value)).run P w'' = _
   rw [Array.mapM_eq_mapM_toList]
   simp only [Sem.run_bind, Sem.run_map, h8, Result.andThen_ok, Sem.run_pure]
  ·have := zJ h9
   simp only [oneOf, Rv] at this
   rw [this]
   simp only [Rv]
 rcases hoo with rfl | rfl
 ·show LeavesInM Fence.wide 0 P Fn a'.tmps _ a'.defers .returning w'
  rw [hd]
  exact leaves rks w' hnd hmk hext fin
 ·show LeavesInM Fence.wide 0 P Fn a'.tmps _ a'.defers .returning w'
  rw [hd]
  exact leaves rks w' hnd hmk hext fin
theorem aC9 {l : List (Nat × eJ)} (hmix : P.follows .mixedOrders = true) (hl : ∀ p ∈ l, Row P p ∨ aGs P (table l) p.1 p.2) : sB P (table l) :=
 ⟨asked P, qN P, fun id fn h => by
  rcases hl _ (yM h) with ⟨Fn, h1, h2⟩ | h1
  ·exact .inl ⟨Fn, h1, h2⟩
  ·exact .inr h1, fun call hcall => zI (asked P) (qN P) hmix call hcall⟩
end Go.Ev
namespace Go.Ev
variable {P : Program} {σ : Env} {S : St} {w : World}
def xG (S : St) : Prop := ∀ b bl, S.h.get b = some bl → ¬ rK bl
def uJ (σ : Env) (b : Nat) (L : Loc) : Env := fun c => if c = b then some L else σ c
theorem aLp (hR : kT P σ S w) (L : Loc) : ∀ b M, σ b = some M → uJ σ S.nx L b = some M := fun b M h => by
 have := hR.below h
 unfold uJ
 rw [if_neg (by omega)]
 exact h
structure oG (P : Program) (σ : Env) (S : St) (w : World) (σ' : Env) (S' : St) : Prop where
 rep : kT P σ' S' w
 no : xG S'
 same : Same S S'
 fresh : wT S'
 le : ∀ b L, σ b = some L → σ' b = some L
theorem oG.refl (hR : kT P σ S w) (hn : xG S) (hf : wT S) : oG P σ S w σ S := ⟨hR, hn, Same.refl S, hf, fun _ _ h => h⟩
theorem oG.trans {σ' σ'' : Env} {S' S'' : St} (h : oG P σ S w σ' S') (h' : oG P σ' S' w σ'' S'') : oG P σ S w σ'' S'' := ⟨h'.rep, h'.no, h.same.trans h'.same, h'.fresh, fun b L hb => h'.le b L (h.le b L hb)⟩
theorem aLB (hn : xG S) (r : Nat) : ¬ Own σ S r := fun ⟨b, bl, _, h1, h2, _⟩ => hn b bl h1 h2
theorem aHi {fns : T eJ} (hK : sB P fns) {id : Nat} {b : Bool} {Fn : Func} (hFn : P.funcs[id]? = some Fn) (hb : Fn.body.isSome = true) (hnm : (Fn.name == "runtime.NumGoroutine") = false) {avs : List AV} {Args : List Value} {Q : St → Prop}
  (h : iM fns (.fn id [] []) avs S fun r S' => r = .bool b ∧ Q S') (hargs : gO P σ avs Args) (hR : kT P σ S w) (hn : xG S) :
  Calls P id ⟨Args⟩ w fun e w' => e = .returned (.bool b) ∧ Kept w w' := by
 obtain ⟨n, v, S', hrun0, hv, _⟩ := h
 subst hv
 have hs := aIJ hK n _ _ _ _ _ hrun0 σ w (.func (.func id) ⟨[]⟩ ⟨[]⟩) Args (by simp only [Rv]; exact ⟨[], [], rfl, dD.2 rfl, dD.2 rfl⟩) hargs hR
 have hnm' : ¬ Fn.name = "runtime.NumGoroutine" := by simpa using hnm
 obtain ⟨C, hC⟩ := Option.isSome_iff_exists.1 hb
 have hrun : ((do let d ← Deferred.ofValue (.func (.func id) ⟨[]⟩ ⟨[]⟩) ⟨Args⟩; invoke d.target d.args : Sem Next)).run P w = .ok (.enter id ⟨Args⟩) w := by
  simp only [Deferred.ofValue, Sem.run_bind, Sem.run_pure, Result.andThen_ok, invoke, callFunc, run_program, hFn]
  simp [hC, hnm']
 rw [hrun] at hs
 have hs : CallsIn Fence.wide 0 P id ⟨Args⟩ w _ := hs
 refine (callsIn_wide.1 hs).mono fun e w' h => ?_
 cases e with
 | returned V =>
  obtain ⟨σ', h1, h2⟩ := h
  simp only [Rv] at h1
  subst h1
  exact ⟨rfl, h2.kept (aLB hn)⟩
 | _ => exact h.elim
theorem aKO {l : List (Nat × List AV)} : xG (stL P l) := fun b bl h ho => by
 obtain ⟨cs, _, rfl⟩ := lZ h
 exact ho.elim
theorem aKL {l : List (Nat × List AV)} (hl : ∀ x ∈ l, x.1 < P.globals.size) : wT (stL P l) := fun b hb => by
 cases h : (stL P l).h.get b with
 | none => rfl
 | some bl =>
  obtain ⟨cs, h1, _⟩ := lZ h
  have h2 := hl _ h1
  simp only [stL] at hb
  simp only at h2
  omega
end Go.Ev
namespace Go.Ev
variable {P : Program} {σ : Env} {S : St} {w : World}
theorem aHC (hR : kT P σ S w) (hn : xG S) (hf : wT S) (hG : P.globals.size ≤ S.nx) {r d : Nat} {cs : List AV} {Cs : List Value} (hr : r < w.heap.size) (hc : gO P σ cs Cs) (h1 : ∀ u ∈ Cs, u.oneCell' = true) (hw : w.rangeAt r d Cs) :
  oG P σ S w (uJ σ S.nx ⟨r, d, 0⟩) ⟨S.h.set S.nx (some (.ro cs)), S.nx + 1⟩ := by
 have hle := aLp hR ⟨r, d, 0⟩
 refine ⟨⟨fun b bl hb => ?_, fun b bl hb => ?_, fun b hb => ?_, fun g hg => ?_, fun b b' bl bl' L L' hb _ ho => ?_⟩, fun b bl hb => ?_, Same.alloc S _, (aG1 S _).1 hf, hle⟩
 ·simp only at hb
  rw [T.get_set] at hb
  split at hb
  ·rename_i e
   subst e
   cases hb
   exact ⟨⟨r, d, 0⟩, by unfold uJ; rw [if_pos rfl], hr, Cs, hc.mono hle, h1, hw⟩
  ·obtain ⟨L, h1, h2, h3⟩ := hR.blk b bl hb
   exact ⟨L, hle b L h1, h2, h3.frame hle rfl⟩
 ·simp only at hb
  rw [T.get_set] at hb
  split at hb
  ·rename_i e; subst e; simp
  ·have := hR.lt b bl hb; simp only; omega
 ·simp only at hb
  unfold uJ
  rw [if_neg (by omega)]
  exact hR.fresh b (by omega)
 ·unfold uJ
  rw [if_neg (by omega)]
  exact hR.glob g hg
 ·simp only at hb
  rw [T.get_set] at hb
  split at hb
  ·cases hb; exact ho.elim
  ·exact absurd ho (hn b bl hb)
 ·simp only at hb
  rw [T.get_set] at hb
  split at hb
  ·cases hb; exact fun h => h
  ·exact hn b bl hb
def Lays (P : Program) (t : TypeId) {α : Type} (E : St → List AV → α → Prop) : Prop :=
 ∀ (H : Type) (enc : TypeId × Value → H) (σ : Env) (S : St) (w : World) (base : Nat) (spare : Nat → Bool) (held : Bool) (fuel : Nat) (cs : List Value) (x : DataW H × List MemPlace), kT P σ S w → xG S → wT S → P.globals.size ≤ S.nx → DataW.trod enc P w base spare held fuel t cs = some x → (∀ n ∈ DataW.weights P t x.1, n ≤ 140737488355328) →
  ∃ σ' S' avs a, oG P σ S w σ' S' ∧ gO P σ' avs cs ∧ (∀ u ∈ cs, u.oneCell' = true) ∧ E S' avs a ∧ S.nx ≤ S'.nx
def aB5 {α : Type} (E : St → List AV → α → Prop) : Prop := ∀ {S S' : St} {avs : List AV} {a : α}, E S avs a → Same S S' → E S' avs a
def aKu (k : IntKind) (_ : St) (avs : List AV) (z : Int) : Prop := avs = [.int k z] ∧ (Lit.int k z).wf = true
theorem aJw {k : IntKind} : aB5 (aKu k) := fun h _ => h
theorem aIV {t : TypeId} {k : IntKind} (ht : P.underlying t = some (.int k)) : Lays P t (aKu k) := by
 intro H enc σ S w base spare held fuel cs x hR hn hf hG h hW
 obtain ⟨n, rfl, _, hw⟩ := DataW.trod_int ht h
 exact ⟨σ, S, [.int k n], n, oG.refl hR hn hf, dE.2 ⟨_, _, rfl, by simp only [Rv], dD.2 rfl⟩, fun u hu => by simp at hu; subst hu; rfl, ⟨rfl, hw⟩, Af _⟩
theorem zF {H : Type} {e : TypeId} {d : DataW H} {n : Nat} : ∀ {l : List (DataW H)}, d ∈ l → n ∈ DataW.weights P e d → n ∈ DataW.weightsAll P e l
 | [], h, _ => by cases h
 | x :: r, h, hn => by
  show n ∈ DataW.weights P e x ++ DataW.weightsAll P e r
  rcases Br.1 h with rfl | h
  ·exact Da _ hn
  ·exact Cm _ (zF h hn)
theorem vO {H : Type} {n : Nat} : ∀ {ts : List TypeId} {l : List (DataW H)} {i : Nat} {t : TypeId} {d : DataW H}, ts[i]? = some t → l[i]? = some d → n ∈ DataW.weights P t d → n ∈ DataW.weightsEach P ts l
 | [], _, _, _, _, h, _, _ => by simp at h
 | _ :: _, [], _, _, _, _, h, _ => by simp at h
 | u :: ts, x :: r, 0, t, d, h1, h2, hn => by
  simp at h1 h2
  subst h1
  subst h2
  exact Da _ hn
 | u :: ts, x :: r, i + 1, t, d, h1, h2, hn => by
  show n ∈ DataW.weights P u x ++ DataW.weightsEach P ts r
  exact Cm _ (vO (by simpa using h1) (by simpa using h2) hn)
theorem aB1 {H : Type} {t e : TypeId} {xs ys : List (DataW H)} (ht : P.underlying t = some (.slice e)) : DataW.weights P t (.slice xs ys) = (xs.length + ys.length) * P.bytesOf e :: (DataW.weightsAll P e xs ++ DataW.weightsAll P e ys) := by
 unfold DataW.weights
 rw [ht]
def aI2 (k : Nat) {α : Type} (E : St → List AV → α → Prop) (S : St) (avs : List AV) (l : List α) : Prop :=
 ∃ av, avs = [av] ∧ l.length * (8 * k) ≤ 140737488355328 ∧ ((l = [] ∧ (av = .nilsl ∨ av = .emp)) ∨ ∃ (b cap : Nat) (css : List (List AV)), av = .sl b 0 l.length cap false ∧ l.length ≤ cap ∧ b < S.nx ∧ S.h.get b = some (.ro css.flatten) ∧ css.length = l.length ∧ ∀ (i : Nat) (cs : List AV) (a : α), css[i]? = some cs → l[i]? = some a → cs.length = k ∧ E S cs a)
theorem aIZ {a : Addr} {n base : Nat} {cs : List Value} (h : w.cells? base a n = some cs) : cs.length = n ∧ ∀ i, i < n → w.cell? (a.add i) = cs[i]? := by
 unfold World.cells? at h
 split at h
 ·refine ⟨by simpa using mapM_some_length h, fun i hi => ?_⟩
  exact mapM_some_get h i i (by simp [hi])
 ·cases h
theorem aBx {e : TypeId} {k : Nat} {α : Type} {E : St → List AV → α → Prop} (hE : Lays P e E) (hF : aB5 E) (hk : 0 < k) {H : Type} {enc : TypeId × Value → H} {base : Nat} {spare : Nat → Bool} {held : Bool} {fuel : Nat} {a : Addr} (hspot : a.spot = none)
  (hR : kT P σ S w) (hn : xG S) (hf : wT S) (hG : P.globals.size ≤ S.nx) : ∀ {m : Nat}, (∀ i, i < m → ∃ x, (w.cells? base (a.add (i * k)) k).bind (DataW.trod enc P w base spare held fuel e) = some x ∧ ∀ n ∈ DataW.weights P e x.1, n ≤ 140737488355328) →
  ∃ (σ' : Env) (S' : St) (css : List (List AV)), ∃ l : List α, ∃ Cs : List Value, oG P σ S w σ' S' ∧ S.nx ≤ S'.nx ∧ css.length = m ∧ l.length = m ∧ (∀ (i : Nat) (cs : List AV) (a : α), css[i]? = some cs → l[i]? = some a → cs.length = k ∧ E S' cs a) ∧ gO P σ' css.flatten Cs ∧ (∀ u ∈ Cs, u.oneCell' = true) ∧ Cs.length = m * k ∧ w.rangeAt a.block a.off Cs
 | 0, _ => ⟨σ, S, [], [], [], oG.refl hR hn hf, Af _, rfl, rfl, fun i cs a hi => (by simp at hi), dD.2 rfl, fun u hu => (by cases hu), by simp, fun j v hv => (by simp at hv)⟩
 | m + 1, h => by
  obtain ⟨σ1, S1, css, l, Cs, hA, hn1, hcl, hll, hel, hrv, hone, hlen, hrange⟩ := aBx hE hF hk hspot hR hn hf hG (m := m) fun i hi => h i (by omega)
  obtain ⟨x, hx, hxW⟩ := h m (by omega)
  obtain ⟨cs, hcs, hx⟩ := Cc.1 hx
  obtain ⟨σ2, S2, avs, y, hA2, hrv2, hone2, hE2, hn2⟩ := hE H enc σ1 S1 w base spare held fuel cs x hA.rep hA.no hA.fresh (Al hG hn1) hx hxW
  obtain ⟨hcl2, hcell⟩ := aIZ hcs
  have hal : avs.length = k := by rw [← hrv2.length]; exact hcl2
  refine ⟨σ2, S2, css ++ [avs], l ++ [y], Cs ++ cs, hA.trans hA2, Al hn1 hn2, by simp [hcl], by simp [hll], ?_, ?_, ?_, ?_, ?_⟩
  ·intro i cs' a' hi ha
   rw [Dz] at hi ha
   rw [hcl] at hi
   rw [hll] at ha
   split at hi
   ·rename_i hlt
    rw [if_pos hlt] at ha
    exact ⟨(hel i cs' a' hi ha).1, hF (hel i cs' a' hi ha).2 hA2.same⟩
   ·rename_i hlt
    rw [if_neg hlt] at ha
    have him : i - m = 0 := by
     rcases Be (i - m) with h | h
     ·exact h
     ·obtain ⟨q, hq⟩ := Nat.exists_eq_succ_of_ne_zero (Nat.pos_iff_ne_zero.1 h)
      rw [hq] at hi; simp at hi
    rw [him] at hi ha
    simp at hi ha
    subst hi; subst ha
    exact ⟨hal, hE2⟩
  ·rw [List.flatten_append]
   simp only [List.flatten_cons, List.flatten_nil, Bk]
   exact (hrv.mono hA2.le).append hrv2
  ·intro u hu
   rcases Bh.1 hu with hu | hu
   ·exact hone u hu
   ·exact hone2 u hu
  ·rw [Ah, hlen, hcl2, Cg]
  ·intro j v hv
   rw [Dz] at hv
   split at hv
   ·exact hrange j v hv
   ·rename_i hlt
    have hj : j - Cs.length < k := by
     have := (Ai.1 hv).1
     omega
    have := hcell (j - Cs.length) hj
    rw [hv] at this
    rw [← this]
    congr 1
    have hadd : ∀ i, a.add i = ⟨a.block, a.off + i, none⟩ := fun i => by
     unfold Addr.add
     split
     ·rename_i h; subst h; cases a; simp_all
     ·rfl
    have hadd2 : ∀ (x y : Nat), Addr.add ⟨a.block, x, none⟩ y = ⟨a.block, x + y, none⟩ := fun x y => by
     unfold Addr.add
     split
     ·rename_i h; rw [h, Bj]
     ·rfl
    rw [hadd, hadd2, hlen]
    congr 1
    rw [hlen] at hlt
    omega
theorem aFZ {t e : TypeId} {k : Nat} {α : Type} {E : St → List AV → α → Prop} (ht : P.underlying t = some (.slice e)) (hc : P.cellsOf e = k) (hk : 0 < k) (hby : 8 * k ≤ P.bytesOf e) (hE : Lays P e E) (hF : aB5 E) : Lays P t (aI2 k E) := by
 intro H enc σ S w base spare held fuel cs x hR hn hf hG h hW
 rcases DataW.trod_slice ht h with ⟨rfl, _⟩ | ⟨a, len, cap, elems, rest, n, rfl, rfl, hxe, _, hlc, _, hlen, hel, _⟩
 ·exact ⟨σ, S, [.nilsl], [], oG.refl hR hn hf, dE.2 ⟨_, _, rfl, by simp only [Rv], dD.2 rfl⟩, fun u hu => by simp at hu; subst hu; rfl, ⟨_, rfl, by simp, .inl ⟨rfl, .inl rfl⟩⟩, Af _⟩
 ·rw [hc] at hel
  subst hxe
  have hW : ∀ n ∈ DataW.weights P t (.slice (elems.map (·.1)) (rest.map (·.1))), n ≤ 140737488355328 := hW
  rw [aB1 ht] at hW
  have hlw : len * (8 * k) ≤ 140737488355328 := by
   have h1 := hW _ (Bm ..)
   rw [Av, hlen, Dq] at h1
   exact Al (Nat.mul_le_mul_left len hby) (by omega)
  rcases Be len with h0 | hp
  ·subst h0
   exact ⟨σ, S, [.emp], [], oG.refl hR hn hf, dE.2 ⟨_, _, rfl, by simp only [Rv]; exact ⟨a, cap, rfl⟩, dD.2 rfl⟩, fun u hu => by simp at hu; subst hu; rfl, ⟨_, rfl, by simp, .inl ⟨rfl, .inr rfl⟩⟩, Af _⟩
  ·have hget : ∀ i, i < len → ∃ x, (w.cells? base (a.add (i * k)) k).bind (DataW.trod enc P w base spare held n e) = some x ∧ ∀ n ∈ DataW.weights P e x.1, n ≤ 140737488355328 := fun i hi => by
    rw [hel i hi]
    exact ⟨elems[i]'(by omega), Ab (by omega), fun n hn => hW n (Bg _ (Da _ (zF (List.mem_map_of_mem (Bt _)) hn)))⟩
   obtain ⟨x0, hx0, _⟩ := hget 0 hp
   obtain ⟨cs0, hcs0, _⟩ := Cc.1 hx0
   obtain ⟨hl0, hc0⟩ := aIZ hcs0
   have c0 := hc0 0 hk
   rw [Ab (by omega), Cx] at c0
   have e0 : (a.add 0).add 0 = a := rfl
   rw [e0] at c0
   have hblk : a.block < w.heap.size ∧ a.spot = none := by
    unfold World.cell? at c0
    cases hh : w.heap[a.block]? with
    | none => rw [hh] at c0; cases c0
    | some o =>
     refine ⟨(Array.getElem?_eq_some_iff.1 hh).1, ?_⟩
     rw [hh] at c0
     cases o with
     | cells c t fr =>
      simp only at c0
      by_cases hs : a.spot.isSome
      ·rw [if_pos hs] at c0; cases c0
      ·simpa using hs
     | _ => cases c0
   obtain ⟨σ1, S1, css, l, Cs, hA, hn1, hcl, hll, hE1, hrv, hone, hCl, hrange⟩ := aBx hE hF hk hblk.2 hR hn hf hG hget
   have hA2 := aHC hA.rep hA.no hA.fresh (Al hG hn1) hblk.1 hrv hone hrange
   refine ⟨_, _, [.sl S1.nx 0 len cap false], l, hA.trans hA2, dE.2 ⟨_, _, rfl, ?_, dD.2 rfl⟩, fun u hu => by simp at hu; subst hu; rfl, ⟨_, rfl, by rw [hll]; exact hlw, .inr ⟨S1.nx, cap, css, by rw [hll], by omega, by simp, ?_, by rw [hcl, hll], fun i cs a' hi ha => ⟨(hE1 i cs a' hi ha).1, hF (hE1 i cs a' hi ha).2 hA2.same⟩⟩⟩, by simp only; omega⟩
   ·simp only [Rv]
    refine ⟨⟨a.block, a.off, 0⟩, by unfold uJ; rw [if_pos rfl], ?_⟩
    have := hblk.2
    cases a
    simp_all
   ·simp only
    rw [T.get_set, if_pos rfl]
end Go.Ev
namespace Go.Ev
def aM (k : Nat) {α : Type} (E : St → List AV → α → Prop) (S : St) (v : AV) (l : List α) : Prop :=
 (l = [] ∧ (v = .nilsl ∨ v = .emp)) ∨ ∃ b off cap o cs, v = .sl b off l.length cap o ∧ l.length ≤ cap ∧ b < S.nx ∧ cP S.h b = some cs ∧ ∀ (i : Nat) (a : α), l[i]? = some a → ∃ e : List AV, e.length = k ∧ (∀ (j : Nat) (x : AV), e[j]? = some x → cs[off + i * k + j]? = some x) ∧ E S e a
theorem aM.same {k : Nat} {α : Type} {E : St → List AV → α → Prop} (hE : aB5 E) {S S' : St} {v : AV} {l : List α} (h : aM k E S v l) (hs : Same S S') : aM k E S' v l := by
 rcases h with h | ⟨b, off, cap, o, cs, h1, hc, h2, h3, h4⟩
 ·exact .inl h
 ·refine .inr ⟨b, off, cap, o, cs, h1, hc, Ae h2 hs.1, by rw [qF hs h2]; exact h3, fun i a hi => ?_⟩
  obtain ⟨e, e1, e2, e3⟩ := h4 i a hi
  exact ⟨e, e1, e2, hE e3 hs⟩
theorem flat_get {k : Nat} : ∀ {css : List (List AV)} {i j : Nat} {cs : List AV} {x : AV}, (∀ (i : Nat) (cs : List AV), css[i]? = some cs → cs.length = k) → css[i]? = some cs → cs[j]? = some x → css.flatten[i * k + j]? = some x
 | [], i, j, cs, x, _, hi, _ => by simp at hi
 | c :: css, 0, j, cs, x, _, hi, hj => by
  simp at hi
  subst hi
  rw [Cx, Am, List.flatten_cons, An (Ai.1 hj).1]
  exact hj
 | c :: css, i + 1, j, cs, x, hk, hi, hj => by
  have hc := hk 0 c rfl
  rw [List.flatten_cons, Cg, Ao (by omega), hc, show i * k + k + j - k = i * k + j by omega]
  exact flat_get (fun i cs h => hk (i + 1) cs (by simpa using h)) (by simpa using hi) hj
theorem aI2.is {k : Nat} {α : Type} {E : St → List AV → α → Prop} {S : St} {avs : List AV} {l : List α} (h : aI2 k E S avs l) : ∃ v, avs = [v] ∧ aM k E S v l := by
 obtain ⟨v, rfl, _, h | ⟨b, cap, css, h1, h2, h3, h4, h5, h6⟩⟩ := h
 ·exact ⟨v, rfl, .inl h⟩
 ·refine ⟨v, rfl, .inr ⟨b, 0, cap, false, css.flatten, h1, h2, h3, ?_, fun i a hi => ?_⟩⟩
  ·unfold cP; rw [h4]; rfl
  ·have hil : i < css.length := by have := (Ai.1 hi).1; omega
   obtain ⟨e1, e2⟩ := h6 i css[i] a (Ab hil) hi
   refine ⟨css[i], e1, fun j x hj => ?_, e2⟩
   rw [Am]
   exact flat_get (fun i' cs' hi' => (h6 i' cs' (l[i']'(by have := (Ai.1 hi').1; omega)) hi' (Ab _)).1) (Ab hil) hj
section
variable {k : Nat} {α : Type} {E : St → List AV → α → Prop} {S : St} {v : AV} {l : List α}
theorem aM.len (h : aM k E S v l) : lW v = some (.int .i64 ((l.length : Nat) : Int)) := by
 rcases h with ⟨rfl, rfl | rfl⟩ | ⟨b, off, cap, o, cs, rfl, _⟩ <;> rfl
def aIQ (k : Nat) (v : AV) (i : Nat) : AV :=
 match v with
 | .sl b off _ _ _ => .ptr b (off + i * k)
 | _ => .undef
theorem aM.iaddr (h : aM k E S v l) {i : Nat} (hi : i < l.length) : eT (.slice k) v i = some (aIQ k v i) := by
 rcases h with ⟨rfl, _⟩ | ⟨b, off, cap, o, cs, rfl, _⟩
 ·simp at hi
 ·simp only [eT, aIQ]
  have : Nat.blt i l.length = true := Ak hi
  rw [this, aF]
theorem aM.get (h : aM k E S v l) {i : Nat} {a : α} (hi : l[i]? = some a) : ∃ (e : List AV) (b p : Nat), aIQ k v i = .ptr b p ∧ b < S.nx ∧ e.length = k ∧ E S e a ∧ ∃ cs, cP S.h b = some cs ∧ ∀ (j : Nat) (x : AV), e[j]? = some x → cs[p + j]? = some x := by
 rcases h with ⟨rfl, _⟩ | ⟨b, off, cap, o, cs, rfl, hc, hb, hcs, hel⟩
 ·simp at hi
 ·obtain ⟨e, e1, e2, e3⟩ := hel i a hi
  exact ⟨e, b, off + i * k, rfl, hb, e1, e3, cs, hcs, e2⟩
end
end Go.Ev
