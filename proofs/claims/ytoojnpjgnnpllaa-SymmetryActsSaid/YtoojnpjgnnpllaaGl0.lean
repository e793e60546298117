import Derived.Test.YtoojnpjgnnpllaaEv8
set_option maxHeartbeats 4000000
set_option linter.unusedSimpArgs false
set_option linter.unusedVariables false
namespace Go.Ev.Gl
end Go.Ev.Gl
namespace Go.Ev.Gl
variable {fns : T cA}
theorem tL (a b : Bool) : isB (.bool a) b = (a == b) := by cases a <;> cases b <;> rfl
theorem aDI {d : Option Nat} {op : AOp} {s : Nat} {b : Bool} {m : Nat} {l : List AO} {F : Fr} {S : St} {Q : Fr → St → Prop} : qX fns (⟨d, op, some (s, b), m⟩ :: l) F S Q ↔ if isB (aC s F) b = true then qX fns (⟨d, op, none, m⟩ :: l) F S Q else qX fns l (cG d F .undef) S Q := by
 have e : ∀ call, aCg ⟨d, op, some (s, b), m⟩ call F S = bO (isB (aC s F) b) (aCg ⟨d, op, none, m⟩ call F S) (some (cG d F .undef, S)) := fun call => by
  cases op <;> rfl
 constructor
 ·rintro ⟨n, F', S', h1, h2⟩
  rw [fQ, e] at h1
  cases hb : isB (aC s F) b with
  | true =>
   rw [hb, aG] at h1
   rw [if_pos rfl]
   exact ⟨n, F', S', by rw [fQ]; exact h1, h2⟩
  | false =>
   rw [hb, aM, aF] at h1
   rw [if_neg (by simp)]
   exact ⟨n, F', S', h1, h2⟩
 ·intro h
  cases hb : isB (aC s F) b with
  | true =>
   rw [hb, if_pos rfl] at h
   obtain ⟨n, F', S', h1, h2⟩ := h
   refine ⟨n, F', S', ?_, h2⟩
   rw [fQ, e, hb, aG, ← fQ]
   exact h1
  | false =>
   rw [hb, if_neg (by simp)] at h
   obtain ⟨n, F', S', h1, h2⟩ := h
   refine ⟨n, F', S', ?_, h2⟩
   rw [fQ, e, hb, aM, aF]
   exact h1
theorem aKO {d : Option Nat} {op : AOp} {s : Nat} {b : Bool} {m : Nat} {l : List AO} {F : Fr} {S : St} {Q : Fr → St → Prop} (hg : aC s F = .bool b) : qX fns (⟨d, op, some (s, b), m⟩ :: l) F S Q ↔ qX fns (⟨d, op, none, m⟩ :: l) F S Q := by
 rw [aDI, hg, tL, if_pos (by simp)]
theorem aJZ {d : Option Nat} {op : AOp} {s : Nat} {b : Bool} {m : Nat} {l : List AO} {F : Fr} {S : St} {Q : Fr → St → Prop} (hg : aC s F = .bool (!b)) : qX fns (⟨d, op, some (s, b), m⟩ :: l) F S Q ↔ qX fns l (cG d F .undef) S Q := by
 rw [aDI, hg, tL, if_neg (by cases b <;> simp)]
theorem bB {c : cH} {x y : AC} {A : bT} {S : St} {Q : Out → bT → St → Prop} (hc : c.val A.F = .bool true) (h : lZ fns x A S Q) : lZ fns (.cond c x y) A S Q := aGg hc (fun _ => h) (fun h => by cases h)
theorem aX {c : cH} {x y : AC} {A : bT} {S : St} {Q : Out → bT → St → Prop} (hc : c.val A.F = .bool false) (h : lZ fns y A S Q) : lZ fns (.cond c x y) A S Q := aGg hc (fun h => by cases h) (fun _ => h)
theorem cI {ops : List AO} {y : AC} {A : bT} {S : St} {Q : Out → bT → St → Prop} (h : qX fns ops A.F S fun F' S' => aB7 fns y Q .normal ⟨F', A.inr⟩ S') : lZ fns (.seq (.reg ops) y) A S Q := aE (aR h)
theorem kK {ops : List AO} {y z : AC} {A : bT} {S : St} {Q : Out → bT → St → Prop} (h : qX fns ops A.F S fun F' S' => aB7 fns y (aB7 fns z Q) .normal ⟨F', A.inr⟩ S') : lZ fns (.seq (.seq (.reg ops) y) z) A S Q := aE (aE (aR h))
theorem rX (y : AC) (Q : Out → bT → St → Prop) (A : bT) (S : St) : aB7 fns y Q .normal A S = lZ fns y A S Q := rfl
theorem zJ (y : AC) (Q : Out → bT → St → Prop) (A : bT) (S : St) : aB7 fns y Q .ret A S = Q .ret A S := rfl
theorem vK (y : AC) (Q : Out → bT → St → Prop) (A : bT) (S : St) (i : Nat) : aB7 fns y Q (.exit i) A S = Q (.exit i) A S := rfl
theorem pF (id : Nat) (Q : Out → bT → St → Prop) (A : bT) (S : St) : zE id Q .normal A S = Q .normal A S := rfl
theorem vN (id : Nat) (Q : Out → bT → St → Prop) (A : bT) (S : St) : zE id Q .ret A S = Q .ret A S := rfl
theorem uD (id i : Nat) (Q : Out → bT → St → Prop) (A : bT) (S : St) : zE id Q (.exit i) A S = if i = id then Q .normal A S else Q (.exit i) A S := rfl
theorem oT (I : Nat → bT → St → Prop) (k : Nat) (Q : Out → bT → St → Prop) (A : bT) (S : St) : aD6 I k Q .normal A S = ∃ k', k' < k ∧ I k' A S := rfl
theorem vW (I : Nat → bT → St → Prop) (k : Nat) (Q : Out → bT → St → Prop) (A : bT) (S : St) : aD6 I k Q .ret A S = Q .ret A S := rfl
theorem tN (I : Nat → bT → St → Prop) (k i : Nat) (Q : Out → bT → St → Prop) (A : bT) (S : St) : aD6 I k Q (.exit i) A S = Q (.exit i) A S := rfl
theorem aCj (res : List RV) (Q : AV → St → Prop) (A : bT) (S : St) : aMF res Q .ret A S = kE (results res A.F S.h) fun vs => Q (oneOf vs) S := rfl
theorem sT (F : Fr) (h : T AB) : results [] F h = some [] := rfl
theorem aAi (i : Nat) (rs : List RV) (F : Fr) (h : T AB) : results (.t i :: rs) F h = aU (results rs F h) fun vs => some (aC i F :: vs) := rfl
theorem zW (v : AV) : oneOf [v] = v := rfl
theorem zU (v u : AV) (vs : List AV) : oneOf (v :: u :: vs) = .tup (v :: u :: vs) := rfl
theorem vZ (i : Nat) (F : Fr) : oV [] i F = F := rfl
theorem uC (v : AV) (vs : List AV) (i : Nat) (F : Fr) : oV (v :: vs) i F = oV vs (i + 1) (cG (some i) F v) := rfl
theorem wZ (t : Bool) (a b : cH) (F : Fr) : tC (.bool t) a b F = some (bO t (a.val F) (b.val F)) := rfl
theorem zB (x : cH) : dG (.mv x) = false := rfl
theorem vP (op : BinOp) (e : rC) (x y : cH) : dG (.bin op e x y) = false := rfl
theorem rG (k : IxK) (x y : cH) : dG (.iaddr k x y) = false := rfl
theorem aAb (g : Bool) (n : Nat) (x : cH) : dG (.ld g n x) = true := rfl
theorem fU (x : cH) : dG (.lenSl x) = false := rfl
theorem wK (k : IntKind) (x : cH) : dG (.conv (.int k) x) = false := rfl
theorem aEq (h0 : T AB) (hs : List (Nat × Nat × T AB)) : fC h0 hs [] = true := rfl
theorem rZ (h0 : T AB) (hs : List (Nat × Nat × T AB)) (l : jJ) (ls : List jJ) : fC h0 hs (l :: ls) = bO (eG l hs h0) (fC h0 hs ls) false := rfl
theorem aBu (l : jJ) (h : T AB) : eG l [] h = lM l.v (gP l.q l.F h) := rfl
theorem wF (v w : AV) : lM v (some w) = cN w v := rfl
theorem bX (m : Nat) (h : T AB) : cE m [] h = ([], h) := rfl
attribute [simp] dJ aGo aAm aKO aJZ xK jQ iR aDr tL rX zJ vK pF vN uD oT vW tN aCj sT aAi
 zW zU vZ uC wZ aF pR aG aM aF1 aDQ aGu zY yW zR aB5 tW aBF aDV iG aEG bJ fX
 aEe aDP aD2 aD8 aDL aEh aDn aAY aEf aBp
 zB vP rG aAb fU wK aEq rZ aBu wF eU aAk aA9 mP vX bX
theorem wrap_i64 {n : Int} (h1 : -9223372036854775808 ≤ n) (h2 : n ≤ 9223372036854775807) : IntKind.i64.wrap n = n := aA3 (by simp [IntKind.min, IntKind.signed, IntKind.bits]; omega) (by simp [IntKind.max, IntKind.signed, IntKind.bits]; omega)
theorem qW (F : Fr) : cT [] F = [] := rfl
theorem lK (x : cH) (l : List cH) (F : Fr) : cT (x :: l) F = x.val F :: cT l F := rfl
theorem dT (n : Nat) (x v : cH) (call : dV) (F : Fr) (S : St) : xP (.st n x v) call F S = aU (v.val F).cells fun cs => oH (x.val F) n cs S := rfl
theorem cV (k : IntKind) (n : Int) : (AV.int k n).cells = some [.int k n] := rfl
attribute [simp] qW lK dT cV
theorem aAZ (k : SlK) (x : cH) (lo hi mx : Option cH) (F : Fr) (h : T AB) : gP (.slc k x lo hi mx) F h = pK k (x.val F) lo hi mx F := rfl
theorem aDH (k : IntKind) {z : Int} (h : 0 ≤ z) : eF (.int k z) = some z.toNat := by
 obtain ⟨n, rfl⟩ := Int.eq_ofNat_of_zero_le h
 rfl
attribute [simp] aAZ aDH
end Go.Ev.Gl
namespace Go.Ev.Gl
end Go.Ev.Gl
namespace Go.Ev.Gl
end Go.Ev.Gl
namespace Go.Ev.Gl
end Go.Ev.Gl
namespace Go.Ev.Gl
end Go.Ev.Gl
namespace Go.Ev.Gl
end Go.Ev.Gl
