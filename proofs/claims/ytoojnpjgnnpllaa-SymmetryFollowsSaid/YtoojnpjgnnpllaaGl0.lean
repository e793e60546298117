import Derived.Test.YtoojnpjgnnpllaaEv8
set_option maxHeartbeats 16000000
set_option linter.unusedSimpArgs false
set_option linter.unusedVariables false
namespace Go.Ev.Gl
variable {fns : T eJ}
theorem rY (a b : Bool) : isB (.bool a) b = (a == b) := by cases a <;> cases b <;> rfl
theorem aCU {d : Option Nat} {op : AOp} {s : Nat} {b : Bool} {m : Nat} {l : List AO} {F : Fr} {S : St} {Q : Fr → St → Prop} : qM fns (⟨d, op, some (s, b), m⟩ :: l) F S Q ↔ if isB (aC s F) b = true then qM fns (⟨d, op, none, m⟩ :: l) F S Q else qM fns l (cJ d F .undef) S Q := by
 have e : ∀ call, aAZ ⟨d, op, some (s, b), m⟩ call F S = bQ (isB (aC s F) b) (aAZ ⟨d, op, none, m⟩ call F S) (some (cJ d F .undef, S)) := fun call => by
  cases op <;> rfl
 constructor
 ·rintro ⟨n, F', S', h1, h2⟩
  rw [fW, e] at h1
  cases hb : isB (aC s F) b with
  | true =>
   rw [hb, aF] at h1
   rw [if_pos rfl]
   exact ⟨n, F', S', by rw [fW]; exact h1, h2⟩
  | false =>
   rw [hb, aL, aE] at h1
   rw [if_neg (by simp)]
   exact ⟨n, F', S', h1, h2⟩
 ·intro h
  cases hb : isB (aC s F) b with
  | true =>
   rw [hb, if_pos rfl] at h
   obtain ⟨n, F', S', h1, h2⟩ := h
   refine ⟨n, F', S', ?_, h2⟩
   rw [fW, e, hb, aF, ← fW]
   exact h1
  | false =>
   rw [hb, if_neg (by simp)] at h
   obtain ⟨n, F', S', h1, h2⟩ := h
   refine ⟨n, F', S', ?_, h2⟩
   rw [fW, e, hb, aL, aE]
   exact h1
theorem aKk {d : Option Nat} {op : AOp} {s : Nat} {b : Bool} {m : Nat} {l : List AO} {F : Fr} {S : St} {Q : Fr → St → Prop} (hg : aC s F = .bool b) : qM fns (⟨d, op, some (s, b), m⟩ :: l) F S Q ↔ qM fns (⟨d, op, none, m⟩ :: l) F S Q := by
 rw [aCU, hg, rY, if_pos (by simp)]
theorem aH4 {d : Option Nat} {op : AOp} {s : Nat} {b : Bool} {m : Nat} {l : List AO} {F : Fr} {S : St} {Q : Fr → St → Prop} (hg : aC s F = .bool (!b)) : qM fns (⟨d, op, some (s, b), m⟩ :: l) F S Q ↔ qM fns l (cJ d F .undef) S Q := by
 rw [aCU, hg, rY, if_neg (by cases b <;> simp)]
theorem aY {c : cK} {x y : AC} {A : bT} {S : St} {Q : Out → bT → St → Prop} (hc : c.val A.F = .bool true) (h : kH fns x A S Q) : kH fns (.cond c x y) A S Q := aFS hc (fun _ => h) (fun h => by cases h)
theorem aT {c : cK} {x y : AC} {A : bT} {S : St} {Q : Out → bT → St → Prop} (hc : c.val A.F = .bool false) (h : kH fns y A S Q) : kH fns (.cond c x y) A S Q := aFS hc (fun h => by cases h) (fun _ => h)
theorem cF {ops : List AO} {y : AC} {A : bT} {S : St} {Q : Out → bT → St → Prop} (h : qM fns ops A.F S fun F' S' => aBp fns y Q .normal ⟨F', A.inr⟩ S') : kH fns (.seq (.reg ops) y) A S Q := aD (aP h)
theorem jH {ops : List AO} {y z : AC} {A : bT} {S : St} {Q : Out → bT → St → Prop} (h : qM fns ops A.F S fun F' S' => aBp fns y (aBp fns z Q) .normal ⟨F', A.inr⟩ S') : kH fns (.seq (.seq (.reg ops) y) z) A S Q := aD (aD (aP h))
theorem qJ (y : AC) (Q : Out → bT → St → Prop) (A : bT) (S : St) : aBp fns y Q .normal A S = kH fns y A S Q := rfl
theorem xT (y : AC) (Q : Out → bT → St → Prop) (A : bT) (S : St) : aBp fns y Q .ret A S = Q .ret A S := rfl
theorem tX (y : AC) (Q : Out → bT → St → Prop) (A : bT) (S : St) (i : Nat) : aBp fns y Q (.exit i) A S = Q (.exit i) A S := rfl
theorem oN (id : Nat) (Q : Out → bT → St → Prop) (A : bT) (S : St) : yE id Q .normal A S = Q .normal A S := rfl
theorem uT (id : Nat) (Q : Out → bT → St → Prop) (A : bT) (S : St) : yE id Q .ret A S = Q .ret A S := rfl
theorem sN (id i : Nat) (Q : Out → bT → St → Prop) (A : bT) (S : St) : yE id Q (.exit i) A S = if i = id then Q .normal A S else Q (.exit i) A S := rfl
theorem oY (I : Nat → bT → St → Prop) (k : Nat) (Q : Out → bT → St → Prop) (A : bT) (S : St) : aCY I k Q .normal A S = ∃ k', k' < k ∧ I k' A S := rfl
theorem uS (I : Nat → bT → St → Prop) (k : Nat) (Q : Out → bT → St → Prop) (A : bT) (S : St) : aCY I k Q .ret A S = Q .ret A S := rfl
theorem sP (I : Nat → bT → St → Prop) (k i : Nat) (Q : Out → bT → St → Prop) (A : bT) (S : St) : aCY I k Q (.exit i) A S = Q (.exit i) A S := rfl
theorem aBk (res : List RV) (Q : AV → St → Prop) (A : bT) (S : St) : aMN res Q .ret A S = kD (results res A.F S.h) fun vs => Q (oneOf vs) S := rfl
theorem rV (F : Fr) (h : T AB) : results [] F h = some [] := rfl
theorem yD (i : Nat) (rs : List RV) (F : Fr) (h : T AB) : results (.t i :: rs) F h = bE (results rs F h) fun vs => some (aC i F :: vs) := rfl
theorem xW (v : AV) : oneOf [v] = v := rfl
theorem yY (v u : AV) (vs : List AV) : oneOf (v :: u :: vs) = .tup (v :: u :: vs) := rfl
theorem vA (i : Nat) (F : Fr) : oV [] i F = F := rfl
theorem rT (v : AV) (vs : List AV) (i : Nat) (F : Fr) : oV (v :: vs) i F = oV vs (i + 1) (cJ (some i) F v) := rfl
theorem fA (t : Bool) (a b : cK) (F : Fr) : rR (.bool t) a b F = some (bQ t (a.val F) (b.val F)) := rfl
theorem yH (x : cK) : dH (.mv x) = false := rfl
theorem tZ (op : BinOp) (e : vC) (x y : cK) : dH (.bin op e x y) = false := rfl
theorem qU (k : IxK) (x y : cK) : dH (.iaddr k x y) = false := rfl
theorem yP (g : Bool) (n : Nat) (x : cK) : dH (.ld g n x) = true := rfl
theorem gD (x : cK) : dH (.lenSl x) = false := rfl
theorem tY (k : IntKind) (x : cK) : dH (.conv (.int k) x) = false := rfl
theorem aEf (h0 : T AB) (hs : List (Nat × Nat × T AB)) : fE h0 hs [] = true := rfl
theorem qW (h0 : T AB) (hs : List (Nat × Nat × T AB)) (l : jO) (ls : List jO) : fE h0 hs (l :: ls) = bQ (eM l hs h0) (fE h0 hs ls) false := rfl
theorem aBa (l : jO) (h : T AB) : eM l [] h = lN l.v (gR l.q l.F h) := rfl
theorem uP (v w : AV) : lN v (some w) = cO w v := rfl
theorem cA (m : Nat) (h : T AB) : cD m [] h = ([], h) := rfl
attribute [simp] dP aFH yF aKk aH4 wZ jR iU aDm rY qJ xT tX oN uT sN oY uS sP aBk rV yD
 xW yY vA rT fA aE pT aF aL aFw aC0 aFL yZ xP xZ aBA rS iB aDb iJ aEQ bL gH
 aDx aDu aCW aDk aDA aC8 aC6 aAq aCV aBK
 yH tZ qU yP gD tY aEf qW aBa uP dO yA aA9 mK uW cA
theorem wrap_i64 {n : Int} (h1 : -9223372036854775808 ≤ n) (h2 : n ≤ 9223372036854775807) : IntKind.i64.wrap n = n := aAj (by simp [IntKind.min, IntKind.signed, IntKind.bits]; omega) (by simp [IntKind.max, IntKind.signed, IntKind.bits]; omega)
theorem nK (F : Fr) : cW [] F = [] := rfl
theorem jL (x : cK) (l : List cK) (F : Fr) : cW (x :: l) F = x.val F :: cW l F := rfl
theorem dW (n : Nat) (x v : cK) (call : eI) (F : Fr) (S : St) : vV (.st n x v) call F S = bE (v.val F).cells fun cs => nQ (x.val F) n cs S := rfl
theorem cT (k : IntKind) (n : Int) : (AV.int k n).cells = some [.int k n] := rfl
attribute [simp] nK jL dW cT
theorem aAu (k : SlK) (x : cK) (lo hi mx : Option cK) (F : Fr) (h : T AB) : gR (.slc k x lo hi mx) F h = qI k (x.val F) lo hi mx F := rfl
theorem aDz (k : IntKind) {z : Int} (h : 0 ≤ z) : eX (.int k z) = some z.toNat := by
 obtain ⟨n, rfl⟩ := Int.eq_ofNat_of_zero_le h
 rfl
attribute [simp] aAu aDz
end Go.Ev.Gl
namespace Go.Ev.Gl
end Go.Ev.Gl
namespace Go.Ev.Gl
end Go.Ev.Gl
namespace Go.Ev.Gl
end Go.Ev.Gl
namespace Go.Ev.Gl
end Go.Ev.Gl
namespace Go.Ev.Gl
end Go.Ev.Gl
