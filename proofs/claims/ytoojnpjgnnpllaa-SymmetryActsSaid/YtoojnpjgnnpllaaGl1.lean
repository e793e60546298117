import Derived.Test.YtoojnpjgnnpllaaGl0
import Derived.Test.YtoojnpjgnnpllaaIr0
import Derived.Test.YtoojnpjgnnpllaaIr1
import Derived.Test.YtoojnpjgnnpllaaIr2
import Derived.Test.YtoojnpjgnnpllaaIr3
set_option maxHeartbeats 4000000
set_option linter.unusedSimpArgs false
set_option linter.unusedVariables false
namespace Go.Ev.Gl
structure Has (fns : T cA) : Prop where
 f3 : fns.get 3 = some a3
 f15 : fns.get 15 = some a15
 f16 : fns.get 16 = some a16
 f17 : fns.get 17 = some a17
 f18 : fns.get 18 = some a18
 f19 : fns.get 19 = some a19
 f20 : fns.get 20 = some a20
 f37 : fns.get 37 = some a37
 f38 : fns.get 38 = some a38
 f41 : fns.get 41 = some a41
 f63 : fns.get 63 = some a63
 f67 : fns.get 67 = some a67
 f68 : fns.get 68 = some a68
 f69 : fns.get 69 = some a69
 f70 : fns.get 70 = some a70
 f86 : fns.get 86 = some a86
 f114 : fns.get 114 = some a114
 f115 : fns.get 115 = some a115
 f116 : fns.get 116 = some a116
 f119 : fns.get 119 = some a119
 f128 : fns.get 128 = some a128
 f129 : fns.get 129 = some a129
 f130 : fns.get 130 = some a130
 f131 : fns.get 131 = some a131
 f151 : fns.get 151 = some a151
 f152 : fns.get 152 = some a152
 f153 : fns.get 153 = some a153
 f154 : fns.get 154 = some a154
 f155 : fns.get 155 = some a155
 f156 : fns.get 156 = some a156
 f157 : fns.get 157 = some a157
 f158 : fns.get 158 = some a158
 f159 : fns.get 159 = some a159
 f162 : fns.get 162 = some a162
 f163 : fns.get 163 = some a163
 f164 : fns.get 164 = some a164
 f165 : fns.get 165 = some a165
 f173 : fns.get 173 = some a173
 f174 : fns.get 174 = some a174
 f175 : fns.get 175 = some a175
 f176 : fns.get 176 = some a176
 f177 : fns.get 177 = some a177
 f180 : fns.get 180 = some a180
 f181 : fns.get 181 = some a181
 f182 : fns.get 182 = some a182
 f183 : fns.get 183 = some a183
 f184 : fns.get 184 = some a184
 f185 : fns.get 185 = some a185
 f186 : fns.get 186 = some a186
end Go.Ev.Gl
namespace Go.Ev.Gl
variable {fns : T cA}
end Go.Ev.Gl
namespace Go.Ev.Gl
variable {fns : T cA}
end Go.Ev.Gl
namespace Go.Ev.Gl
variable {fns : T cA}
theorem repeatL_one {α : Type} (z : α) : ∀ n, repeatL [z] n = List.replicate n z
 | 0 => rfl
 | n + 1 => by rw [jW, repeatL_one z n, List.replicate_succ]; rfl
theorem tA {t s bytes : Nat} {z : List AV} {l c : cH} {F : Fr} {id n : Nat} (hl : eF (l.val F) = some n) (hc : eF (c.val F) = some n) (h1 : n ≤ room) (h2 : bytes * n ≤ room) :
  sN (.mkSlice t s bytes z l c) F id = some (.sl id 0 n n false, .cells (repeatL z n) false 0) := by
 show (aU (eF (l.val F)) fun l => aU (eF (c.val F)) fun c => bO (Nat.ble l c) (bO (Nat.ble c room) (bO (Nat.ble (bytes * c) room) (some (AV.sl id 0 l c false, AB.cells (repeatL z c) false 0)) none) none) none) = _
 rw [hl, aF, hc, aF, Nat.ble_eq_true_of_le (Nat.le_refl n), Nat.ble_eq_true_of_le h1, Nat.ble_eq_true_of_le h2]
 rfl
end Go.Ev.Gl
namespace Go.Ev.Gl
variable {fns : T cA}
end Go.Ev.Gl
namespace Go.Ev.Gl
variable {fns : T cA}
theorem gH (t size bytes : Nat) (s x : cH) (call : dV) (F : Fr) (S : St) : xP (.app t size bytes s x) call F S = fV bytes size (s.val F) (x.val F) S := rfl
theorem nE {t : Nat} {z : AV} {x : cH} {F : Fr} {id : Nat} {k : IntKind} {n : Int} (hx : x.val F = .int k n) : sN (.bslice t 1 1 [z] [(0, x)]) F id = some (.sl id 0 1 1 false, .cells [.int k n] false 0) := by
 show (aU (dY (repeatL [z] 1) [(0 * 1, 1, x.val F)]) fun cs => some (AV.sl id 0 1 1 false, AB.cells cs false 0)) = _
 rw [hx]
 rfl
attribute [simp] gH
end Go.Ev.Gl
namespace Go.Ev.Gl
variable {fns : T cA}
end Go.Ev.Gl
namespace Go.Ev.Gl
variable {fns : T cA}
end Go.Ev.Gl
namespace Go.Ev.Gl
variable {fns : T cA}
end Go.Ev.Gl
namespace Go.Ev.Gl
variable {fns : T cA}
end Go.Ev.Gl
namespace Go.Ev.Gl
variable {fns : T cA}
end Go.Ev.Gl
namespace Go.Ev.Gl
variable {fns : T cA}
end Go.Ev.Gl
namespace Go.Ev.Gl
variable {fns : T cA}
end Go.Ev.Gl
namespace Go.Ev.Gl
variable {fns : T cA}
def mD : List AO → Fr → T AB → (Fr → Prop) → Prop
 | [], F, _, Q => Q F
 | ⟨d, .q q, g, _⟩ :: l, F, h, Q => if dW g F = true then kE (gP q F h) fun v => (dG q = true → cN v v = true) ∧ mD l (cG d F v) h Q else mD l (cG d F .undef) h Q
 | _ :: _, _, _, _ => False
theorem aBw {h : T AB} {base : Nat} {Q : Fr → Prop} : ∀ {ops : List AO} {i : Nat} {D : DS}, D.S.h = h → D.hs = [] → D.ps = [] → fC h [] D.ls = true → mD ops D.F h Q →
  vT fns ops i base D fun D' => Q D'.F ∧ D'.S = D.S ∧ D'.ps = [] ∧ D'.hs = [] ∧ fC h [] D'.ls = true
 | [], i, D, h1, h2, h3, h4, hr => by rw [jQ]; exact ⟨hr, rfl, h3, h2, h4⟩
 | ⟨d, .q q, g, m⟩ :: l, i, ⟨F, S, ps, hs, ls⟩, h1, h2, h3, h4, hr => by
  simp only at h1 h2 h3 h4 hr
  subst h2; subst h3
  simp only [mD] at hr
  have go : ∀ (_ : kE (gP q F h) fun v => (dG q = true → cN v v = true) ∧ mD l (cG d F v) h Q), vT fns (⟨d, .q q, none, m⟩ :: l) i base ⟨F, S, [], [], ls⟩ fun D' => Q D'.F ∧ D'.S = S ∧ D'.ps = [] ∧ D'.hs = [] ∧ fC h [] D'.ls = true := by
   rintro ⟨v, hv, hs, hr⟩
   rw [iR]
   subst h1
   refine ⟨v, hv, aBw rfl rfl rfl ?_ hr⟩
   show fC S.h [] (bO (dG q) (⟨q, F, v, i, m⟩ :: ls) ls) = true
   cases hq : dG q with
   | false => exact h4
   | true =>
    rw [aG, rZ, aBu]
    show bO (lM v (gP q F S.h)) _ _ = true
    rw [hv, wF, hs hq, aG]
    exact h4
  cases g with
  | none => exact go (by rw [if_pos (show dW none F = true from rfl)] at hr; exact hr)
  | some g =>
   obtain ⟨s, b⟩ := g
   by_cases hw : dW (some (s, b)) F = true
   ·rw [if_pos hw] at hr
    obtain ⟨n, D', e1, e2⟩ := go hr
    refine ⟨n, D', ?_, e2⟩
    have : pG ⟨d, .q q, some (s, b), m⟩ i base (ev fns n).call ⟨F, S, [], [], ls⟩ = pG ⟨d, .q q, none, m⟩ i base (ev fns n).call ⟨F, S, [], [], ls⟩ := by
     show bO (dW (some (s, b)) F) _ _ = bO true _ _
     rw [hw]; rfl
    show aU (pG ⟨d, .q q, some (s, b), m⟩ i base (ev fns n).call ⟨F, S, [], [], ls⟩) _ = _
    rw [this]; exact e1
   ·rw [if_neg hw] at hr
    obtain ⟨n, D', e1, e2⟩ := aBw (i := i + 1) (D := ⟨cG d F .undef, S, [], [], ls⟩) h1 rfl rfl h4 hr
    refine ⟨n, D', ?_, e2⟩
    have : pG ⟨d, .q q, some (s, b), m⟩ i base (ev fns n).call ⟨F, S, [], [], ls⟩ = some ⟨cG d F .undef, S, [], [], ls⟩ := by
     show bO (dW (some (s, b)) F) _ _ = _
     rw [show dW (some (s, b)) F = false by simpa using hw]; rfl
    show aU (pG ⟨d, .q q, some (s, b), m⟩ i base (ev fns n).call ⟨F, S, [], [], ls⟩) _ = _
    rw [this]; exact e1
 | ⟨d, .a a, g, m⟩ :: l, i, D, h1, h2, h3, h4, hr => by cases hr
 | ⟨d, .x a, g, m⟩ :: l, i, D, h1, h2, h3, h4, hr => by cases hr
theorem mO {ops : List AO} {A : bT} {S : St} {Q : Out → bT → St → Prop} (h : mD ops A.F S.h fun F => Q .normal ⟨F, A.inr⟩ ⟨S.h, S.nx + ops.length⟩) : lZ fns (.drw ops) A S Q := by
 refine rT ?_
 obtain ⟨n, D', e1, e2, e3, e4, e5, e6⟩ := aBw (fns := fns) (base := S.nx) (i := 0) (D := ⟨A.F, ⟨S.h, S.nx + ops.length⟩, [], [], []⟩) rfl rfl rfl rfl h
 refine ⟨n, D', e1, ?_, ?_⟩
 ·rw [e5]; exact e6
 ·rw [e4, bX, e3]; exact e2
theorem aBs {F : Fr} {h : T AB} {Q : Fr → Prop} : mD [] F h Q ↔ Q F := Iff.rfl
theorem aGm {d : Option Nat} {q : wN} {m : Nat} {l : List AO} {F : Fr} {h : T AB} {Q : Fr → Prop} : mD (⟨d, .q q, none, m⟩ :: l) F h Q ↔ kE (gP q F h) fun v => (dG q = true → cN v v = true) ∧ mD l (cG d F v) h Q := by
 show (if dW none F = true then _ else _) ↔ _
 rw [if_pos (show dW none F = true from rfl)]
theorem aF3 {d : Option Nat} {q : wN} {s : Nat} {b : Bool} {m : Nat} {l : List AO} {F : Fr} {h : T AB} {Q : Fr → Prop} : mD (⟨d, .q q, some (s, b), m⟩ :: l) F h Q ↔ if isB (aC s F) b = true then mD (⟨d, .q q, none, m⟩ :: l) F h Q else mD l (cG d F .undef) h Q := by
 show (if dW (some (s, b)) F = true then _ else _) ↔ _
 rw [show dW (some (s, b)) F = isB (aC s F) b from rfl]
 split
 ·rw [aGm]
 ·rfl
theorem aIX : (true == true) = true := rfl
theorem aIN : (false == false) = true := rfl
theorem aJN : (true == false) = false := rfl
theorem aIZ : (false == true) = false := rfl
theorem zQ (b : Bool) : isB .undef b = false := rfl
theorem vR (k : SlK) (x : cH) (a b c : Option cH) : dG (.slc k x a b c) = false := rfl
theorem nT (x : cH) (i : Nat) : dG (.extract x i) = false := rfl
theorem tO (c a b : cH) : dG (.pick c a b) = false := rfl
theorem wQ (g : Bool) (o n : Nat) (x : cH) : dG (.fld g o n x) = false := rfl
theorem zX (op : UnOp) (x : cH) : dG (.un op x) = false := rfl
attribute [simp] aBs aGm aF3 zQ vR nT tO wQ zX
def aJD (x : Option AV) (ld : Bool) (d : Option Nat) (l : List AO) (F : Fr) (h : T AB) (Q : Fr → Prop) : Prop := kE x fun v => (ld = true → cN v v = true) ∧ mD l (cG d F v) h Q
theorem aCs {v : AV} {ld : Bool} {d : Option Nat} {l : List AO} {F : Fr} {h : T AB} {Q : Fr → Prop} : aJD (some v) ld d l F h Q ↔ (ld = true → cN v v = true) ∧ mD l (cG d F v) h Q := by unfold aJD; rw [dJ]
theorem aJl {d : Option Nat} {q : wN} {m : Nat} {l : List AO} {F : Fr} {h : T AB} {Q : Fr → Prop} : mD (⟨d, .q q, none, m⟩ :: l) F h Q ↔ aJD (gP q F h) (dG q) d l F h Q := aGm
def aIo (fns : T cA) (x : Option AV) (d : Option Nat) (l : List AO) (F : Fr) (S : St) (Q : Fr → St → Prop) : Prop := kE x fun v => qX fns l (cG d F v) S Q
theorem aCp {v : AV} {d : Option Nat} {l : List AO} {F : Fr} {S : St} {Q : Fr → St → Prop} : aIo fns (some v) d l F S Q ↔ qX fns l (cG d F v) S Q := by unfold aIo; rw [dJ]
theorem aLh {d : Option Nat} {q : wN} {m : Nat} {l : List AO} {F : Fr} {S : St} {Q : Fr → St → Prop} : qX fns (⟨d, .q q, none, m⟩ :: l) F S Q ↔ aIo fns (gP q F S.h) d l F S Q := aGo
def dH (b : Nat) (S S' : St) : Prop := S.nx ≤ S'.nx ∧ ∀ c, c < S.nx → c ≠ b → S'.h.get c = S.h.get c
theorem dH.refl (b : Nat) (S : St) : dH b S S := ⟨Nat.le_refl _, fun _ _ _ => rfl⟩
theorem dH.put {b : Nat} {S S' : St} (h : dH b S S') (x : Option AB) : dH b S ⟨S'.h.set b x, S'.nx⟩ := ⟨h.1, fun c hc hne => by simp only; rw [T.get_set, if_neg hne]; exact h.2 c hc hne⟩
theorem dH.same {b : Nat} {S0 S S' : St} (h0 : Same S0 S) (h : dH b S S') (hb : S0.nx ≤ b) : Same S0 S' := ⟨Nat.le_trans h0.1 h.1, fun c hc => (h.2 c (Nat.lt_of_lt_of_le hc h0.1) (by omega)).trans (h0.2 c hc)⟩
theorem Same.nx (S : St) (k : Nat) : Same S ⟨S.h, S.nx + k⟩ := ⟨Nat.le_add_right _ _, fun _ _ => rfl⟩
theorem aJ : type_of% (And.intro @aLh (And.intro @aDI (And.intro @xK (And.intro @rX (And.intro @zJ (And.intro @vK (And.intro @pF (And.intro @vN (And.intro @uD (And.intro @oT (And.intro @vW (And.intro @tN (And.intro @aCj (And.intro @aBs (And.intro @aJl (@aF3)))))))))))))))) := And.intro @aLh (And.intro @aDI (And.intro @xK (And.intro @rX (And.intro @zJ (And.intro @vK (And.intro @pF (And.intro @vN (And.intro @uD (And.intro @oT (And.intro @vW (And.intro @tN (And.intro @aCj (And.intro @aBs (And.intro @aJl (@aF3)))))))))))))))
theorem aH : type_of% (And.intro @aCp (And.intro @dJ (And.intro @aF1 (And.intro @aB5 (And.intro @aDQ (And.intro @aGu (And.intro @yW (And.intro @zR (And.intro @zY (And.intro @tW (And.intro @aDV (And.intro @aBF (And.intro @wZ (And.intro @aAZ (And.intro @iG (And.intro @aEG (And.intro @bJ (And.intro @fX (And.intro @aBp (And.intro @aD2 (And.intro @aEe (And.intro @aDP (And.intro @aD8 (And.intro @aDL (And.intro @aEh (And.intro @aDn (And.intro @aAY (And.intro @aEf (And.intro @aL (And.intro @aF (And.intro @aAi (And.intro @sT (And.intro @zW (And.intro @zU (And.intro @qW (And.intro @lK (And.intro @vZ (And.intro @uC (And.intro @aCs (And.intro @tL (And.intro @zQ (And.intro @aIX (And.intro @aIN (And.intro @aJN (And.intro @aIZ (And.intro @zB (And.intro @vP (And.intro @rG (And.intro @aAb (And.intro @fU (And.intro @wK (And.intro @vR (And.intro @nT (And.intro @tO (And.intro @wQ (And.intro @zX (And.intro @eU (And.intro @aAk (And.intro @aA9 (And.intro @mP (And.intro @vX (And.intro @Bool.false_eq_true (And.intro @false_implies (And.intro @true_implies (And.intro @true_and (And.intro @and_true (And.intro @Int.ofNat_eq_natCast (And.intro @Int.cast_ofNat_Int (And.intro @Int.natCast_zero (And.intro @Int.natCast_one (And.intro (@aG (T AB)) (And.intro (@aM (T AB)) (And.intro (@aG AV) (And.intro (@aM AV) (And.intro (@List.nil_append AV) (And.intro (@List.cons_append AV) (And.intro (@List.append_nil AV) (And.intro (@List.nil_append Nat) (And.intro (@List.cons_append Nat) (@List.append_nil Nat)))))))))))))))))))))))))))))))))))))))))))))))))))))))))))))))))))))))))))))))) := And.intro @aCp (And.intro @dJ (And.intro @aF1 (And.intro @aB5 (And.intro @aDQ (And.intro @aGu (And.intro @yW (And.intro @zR (And.intro @zY (And.intro @tW (And.intro @aDV (And.intro @aBF (And.intro @wZ (And.intro @aAZ (And.intro @iG (And.intro @aEG (And.intro @bJ (And.intro @fX (And.intro @aBp (And.intro @aD2 (And.intro @aEe (And.intro @aDP (And.intro @aD8 (And.intro @aDL (And.intro @aEh (And.intro @aDn (And.intro @aAY (And.intro @aEf (And.intro @aL (And.intro @aF (And.intro @aAi (And.intro @sT (And.intro @zW (And.intro @zU (And.intro @qW (And.intro @lK (And.intro @vZ (And.intro @uC (And.intro @aCs (And.intro @tL (And.intro @zQ (And.intro @aIX (And.intro @aIN (And.intro @aJN (And.intro @aIZ (And.intro @zB (And.intro @vP (And.intro @rG (And.intro @aAb (And.intro @fU (And.intro @wK (And.intro @vR (And.intro @nT (And.intro @tO (And.intro @wQ (And.intro @zX (And.intro @eU (And.intro @aAk (And.intro @aA9 (And.intro @mP (And.intro @vX (And.intro @Bool.false_eq_true (And.intro @false_implies (And.intro @true_implies (And.intro @true_and (And.intro @and_true (And.intro @Int.ofNat_eq_natCast (And.intro @Int.cast_ofNat_Int (And.intro @Int.natCast_zero (And.intro @Int.natCast_one (And.intro (@aG (T AB)) (And.intro (@aM (T AB)) (And.intro (@aG AV) (And.intro (@aM AV) (And.intro (@List.nil_append AV) (And.intro (@List.cons_append AV) (And.intro (@List.append_nil AV) (And.intro (@List.nil_append Nat) (And.intro (@List.cons_append Nat) (@List.append_nil Nat)))))))))))))))))))))))))))))))))))))))))))))))))))))))))))))))))))))))))))))))
end Go.Ev.Gl
namespace Go.Ev.Gl
variable {fns : T cA}
end Go.Ev.Gl
namespace Go.Ev.Gl
variable {fns : T cA}
theorem ex0 (a : AV) (l : List AV) : lS (.tup (a :: l)) 0 = some a := rfl
theorem ex1 (a b : AV) (l : List AV) : lS (.tup (a :: b :: l)) 1 = some b := rfl
theorem ex2 (a b c : AV) (l : List AV) : lS (.tup (a :: b :: c :: l)) 2 = some c := rfl
end Go.Ev.Gl
namespace Go.Ev.Gl
variable {fns : T cA}
end Go.Ev.Gl
