import Derived.Test.YtoojnpjgnnpllaaGl0
import Derived.Test.YtoojnpjgnnpllaaIr0
import Derived.Test.YtoojnpjgnnpllaaIr1
import Derived.Test.YtoojnpjgnnpllaaIr2
import Derived.Test.YtoojnpjgnnpllaaIr3
set_option maxHeartbeats 16000000
set_option linter.unusedSimpArgs false
set_option linter.unusedVariables false
namespace Go.Ev.Gl
structure Has (fns : T eJ) : Prop where
 f4 : fns.get 4 = some a4
 f15 : fns.get 15 = some a15
 f16 : fns.get 16 = some a16
 f17 : fns.get 17 = some a17
 f19 : fns.get 19 = some a19
 f21 : fns.get 21 = some a21
 f22 : fns.get 22 = some a22
 f23 : fns.get 23 = some a23
 f24 : fns.get 24 = some a24
 f37 : fns.get 37 = some a37
 f38 : fns.get 38 = some a38
 f41 : fns.get 41 = some a41
 f63 : fns.get 63 = some a63
 f67 : fns.get 67 = some a67
 f68 : fns.get 68 = some a68
 f69 : fns.get 69 = some a69
 f70 : fns.get 70 = some a70
 f71 : fns.get 71 = some a71
 f86 : fns.get 86 = some a86
 f114 : fns.get 114 = some a114
 f115 : fns.get 115 = some a115
 f116 : fns.get 116 = some a116
 f119 : fns.get 119 = some a119
 f128 : fns.get 128 = some a128
 f129 : fns.get 129 = some a129
 f130 : fns.get 130 = some a130
 f131 : fns.get 131 = some a131
 f151 : fns.get 151 = some a151
 f152 : fns.get 152 = some a152
 f153 : fns.get 153 = some a153
 f154 : fns.get 154 = some a154
 f155 : fns.get 155 = some a155
 f156 : fns.get 156 = some a156
 f157 : fns.get 157 = some a157
 f158 : fns.get 158 = some a158
 f159 : fns.get 159 = some a159
 f162 : fns.get 162 = some a162
 f163 : fns.get 163 = some a163
 f164 : fns.get 164 = some a164
 f165 : fns.get 165 = some a165
 f173 : fns.get 173 = some a173
 f174 : fns.get 174 = some a174
 f175 : fns.get 175 = some a175
 f176 : fns.get 176 = some a176
 f177 : fns.get 177 = some a177
 f180 : fns.get 180 = some a180
 f181 : fns.get 181 = some a181
 f182 : fns.get 182 = some a182
 f183 : fns.get 183 = some a183
 f184 : fns.get 184 = some a184
 f185 : fns.get 185 = some a185
 f186 : fns.get 186 = some a186
variable {fns : T eJ}
theorem repeatL_one {α : Type} (z : α) : ∀ n, repeatL [z] n = List.replicate n z
 | 0 => rfl
 | n + 1 => by rw [jS, repeatL_one z n, List.replicate_succ]; rfl
theorem qR {t s bytes : Nat} {z : List AV} {l c : cK} {F : Fr} {id n : Nat} (hl : eX (l.val F) = some n) (hc : eX (c.val F) = some n) (h1 : n ≤ room) (h2 : bytes * n ≤ room) :
  rO (.mkSlice t s bytes z l c) F id = some (.sl id 0 n n false, .cells (repeatL z n) false 0) := by
 show (bE (eX (l.val F)) fun l => bE (eX (c.val F)) fun c => bQ (Nat.ble l c) (bQ (Nat.ble c room) (bQ (Nat.ble (bytes * c) room) (some (AV.sl id 0 l c false, AB.cells (repeatL z c) false 0)) none) none) none) = _
 rw [hl, aE, hc, aE, Ak (Af n), Ak h1, Ak h2]
 rfl
theorem fU (t size bytes : Nat) (s x : cK) (call : eI) (F : Fr) (S : St) : vV (.app t size bytes s x) call F S = gF bytes size (s.val F) (x.val F) S := rfl
theorem mI {t : Nat} {z : AV} {x : cK} {F : Fr} {id : Nat} {k : IntKind} {n : Int} (hx : x.val F = .int k n) : rO (.bslice t 1 1 [z] [(0, x)]) F id = some (.sl id 0 1 1 false, .cells [.int k n] false 0) := by
 show (bE (eF (repeatL [z] 1) [(0 * 1, 1, x.val F)]) fun cs => some (AV.sl id 0 1 1 false, AB.cells cs false 0)) = _
 rw [hx]
 rfl
attribute [simp] fU
def mD : List AO → Fr → T AB → (Fr → Prop) → Prop
 | [], F, _, Q => Q F
 | ⟨d, .q q, g, _⟩ :: l, F, h, Q => if eH g F = true then kD (gR q F h) fun v => (dH q = true → cO v v = true) ∧ mD l (cJ d F v) h Q else mD l (cJ d F .undef) h Q
 | _ :: _, _, _, _ => False
theorem aBm {h : T AB} {base : Nat} {Q : Fr → Prop} : ∀ {ops : List AO} {i : Nat} {D : DS}, D.S.h = h → D.hs = [] → D.ps = [] → fE h [] D.ls = true → mD ops D.F h Q →
  uN fns ops i base D fun D' => Q D'.F ∧ D'.S = D.S ∧ D'.ps = [] ∧ D'.hs = [] ∧ fE h [] D'.ls = true
 | [], i, D, h1, h2, h3, h4, hr => by rw [jR]; exact ⟨hr, rfl, h3, h2, h4⟩
 | ⟨d, .q q, g, m⟩ :: l, i, ⟨F, S, ps, hs, ls⟩, h1, h2, h3, h4, hr => by
  simp only at h1 h2 h3 h4 hr
  subst h2; subst h3
  simp only [mD] at hr
  have go : ∀ (_ : kD (gR q F h) fun v => (dH q = true → cO v v = true) ∧ mD l (cJ d F v) h Q), uN fns (⟨d, .q q, none, m⟩ :: l) i base ⟨F, S, [], [], ls⟩ fun D' => Q D'.F ∧ D'.S = S ∧ D'.ps = [] ∧ D'.hs = [] ∧ fE h [] D'.ls = true := by
   rintro ⟨v, hv, hs, hr⟩
   rw [iU]
   subst h1
   refine ⟨v, hv, aBm rfl rfl rfl ?_ hr⟩
   show fE S.h [] (bQ (dH q) (⟨q, F, v, i, m⟩ :: ls) ls) = true
   cases hq : dH q with
   | false => exact h4
   | true =>
    rw [aF, qW, aBa]
    show bQ (lN v (gR q F S.h)) _ _ = true
    rw [hv, uP, hs hq, aF]
    exact h4
  cases g with
  | none => exact go (by rw [if_pos (show eH none F = true from rfl)] at hr; exact hr)
  | some g =>
   obtain ⟨s, b⟩ := g
   by_cases hw : eH (some (s, b)) F = true
   ·rw [if_pos hw] at hr
    obtain ⟨n, D', e1, e2⟩ := go hr
    refine ⟨n, D', ?_, e2⟩
    have : oK ⟨d, .q q, some (s, b), m⟩ i base (ev fns n).call ⟨F, S, [], [], ls⟩ = oK ⟨d, .q q, none, m⟩ i base (ev fns n).call ⟨F, S, [], [], ls⟩ := by
     show bQ (eH (some (s, b)) F) _ _ = bQ true _ _
     rw [hw]; rfl
    show bE (oK ⟨d, .q q, some (s, b), m⟩ i base (ev fns n).call ⟨F, S, [], [], ls⟩) _ = _
    rw [this]; exact e1
   ·rw [if_neg hw] at hr
    obtain ⟨n, D', e1, e2⟩ := aBm (i := i + 1) (D := ⟨cJ d F .undef, S, [], [], ls⟩) h1 rfl rfl h4 hr
    refine ⟨n, D', ?_, e2⟩
    have : oK ⟨d, .q q, some (s, b), m⟩ i base (ev fns n).call ⟨F, S, [], [], ls⟩ = some ⟨cJ d F .undef, S, [], [], ls⟩ := by
     show bQ (eH (some (s, b)) F) _ _ = _
     rw [show eH (some (s, b)) F = false by simpa using hw]; rfl
    show bE (oK ⟨d, .q q, some (s, b), m⟩ i base (ev fns n).call ⟨F, S, [], [], ls⟩) _ = _
    rw [this]; exact e1
 | ⟨d, .a a, g, m⟩ :: l, i, D, h1, h2, h3, h4, hr => by cases hr
 | ⟨d, .x a, g, m⟩ :: l, i, D, h1, h2, h3, h4, hr => by cases hr
theorem gE {ops : List AO} {A : bT} {S : St} {Q : Out → bT → St → Prop} (h : mD ops A.F S.h fun F => Q .normal ⟨F, A.inr⟩ ⟨S.h, S.nx + ops.length⟩) : kH fns (.drw ops) A S Q := by
 refine qD ?_
 obtain ⟨n, D', e1, e2, e3, e4, e5, e6⟩ := aBm (fns := fns) (base := S.nx) (i := 0) (D := ⟨A.F, ⟨S.h, S.nx + ops.length⟩, [], [], []⟩) rfl rfl rfl rfl h
 refine ⟨n, D', e1, ?_, ?_⟩
 ·rw [e5]; exact e6
 ·rw [e4, cA, e3]; exact e2
theorem aBz {F : Fr} {h : T AB} {Q : Fr → Prop} : mD [] F h Q ↔ Q F := Iff.rfl
theorem aFD {d : Option Nat} {q : uY} {m : Nat} {l : List AO} {F : Fr} {h : T AB} {Q : Fr → Prop} : mD (⟨d, .q q, none, m⟩ :: l) F h Q ↔ kD (gR q F h) fun v => (dH q = true → cO v v = true) ∧ mD l (cJ d F v) h Q := by
 show (if eH none F = true then _ else _) ↔ _
 rw [if_pos (show eH none F = true from rfl)]
theorem aFb {d : Option Nat} {q : uY} {s : Nat} {b : Bool} {m : Nat} {l : List AO} {F : Fr} {h : T AB} {Q : Fr → Prop} : mD (⟨d, .q q, some (s, b), m⟩ :: l) F h Q ↔ if isB (aC s F) b = true then mD (⟨d, .q q, none, m⟩ :: l) F h Q else mD l (cJ d F .undef) h Q := by
 show (if eH (some (s, b)) F = true then _ else _) ↔ _
 rw [show eH (some (s, b)) F = isB (aC s F) b from rfl]
 split
 ·rw [aFD]
 ·rfl
theorem aJL : (true == true) = true := rfl
theorem aIe : (false == false) = true := rfl
theorem aJf : (true == false) = false := rfl
theorem aIM : (false == true) = false := rfl
theorem xV (b : Bool) : isB .undef b = false := rfl
theorem uU (k : SlK) (x : cK) (a b c : Option cK) : dH (.slc k x a b c) = false := rfl
theorem nF (x : cK) (i : Nat) : dH (.extract x i) = false := rfl
theorem iD (c a b : cK) : dH (.pick c a b) = false := rfl
theorem uQ (g : Bool) (o n : Nat) (x : cK) : dH (.fld g o n x) = false := rfl
theorem yW (op : UnOp) (x : cK) : dH (.un op x) = false := rfl
attribute [simp] aBz aFD aFb xV uU nF iD uQ yW
def aIC (x : Option AV) (ld : Bool) (d : Option Nat) (l : List AO) (F : Fr) (h : T AB) (Q : Fr → Prop) : Prop := kD x fun v => (ld = true → cO v v = true) ∧ mD l (cJ d F v) h Q
theorem aBB {v : AV} {ld : Bool} {d : Option Nat} {l : List AO} {F : Fr} {h : T AB} {Q : Fr → Prop} : aIC (some v) ld d l F h Q ↔ (ld = true → cO v v = true) ∧ mD l (cJ d F v) h Q := by unfold aIC; rw [dP]
theorem aJC {d : Option Nat} {q : uY} {m : Nat} {l : List AO} {F : Fr} {h : T AB} {Q : Fr → Prop} : mD (⟨d, .q q, none, m⟩ :: l) F h Q ↔ aIC (gR q F h) (dH q) d l F h Q := aFD
def aIK (fns : T eJ) (x : Option AV) (d : Option Nat) (l : List AO) (F : Fr) (S : St) (Q : Fr → St → Prop) : Prop := kD x fun v => qM fns l (cJ d F v) S Q
theorem aBO {v : AV} {d : Option Nat} {l : List AO} {F : Fr} {S : St} {Q : Fr → St → Prop} : aIK fns (some v) d l F S Q ↔ qM fns l (cJ d F v) S Q := by unfold aIK; rw [dP]
theorem aK3 {d : Option Nat} {q : uY} {m : Nat} {l : List AO} {F : Fr} {S : St} {Q : Fr → St → Prop} : qM fns (⟨d, .q q, none, m⟩ :: l) F S Q ↔ aIK fns (gR q F S.h) d l F S Q := aFH
def cU (b : Nat) (S S' : St) : Prop := S.nx ≤ S'.nx ∧ ∀ c, c < S.nx → c ≠ b → S'.h.get c = S.h.get c
theorem cU.refl (b : Nat) (S : St) : cU b S S := ⟨Af _, fun _ _ _ => rfl⟩
theorem cU.nx {b : Nat} {S S' : St} (h : cU b S S') (k : Nat) : cU b S ⟨S'.h, S'.nx + k⟩ := ⟨Al h.1 (Ck _ _), h.2⟩
theorem cU.put {b : Nat} {S S' : St} (h : cU b S S') (x : Option AB) : cU b S ⟨S'.h.set b x, S'.nx⟩ := ⟨h.1, fun c hc hne => by simp only; rw [T.get_set, if_neg hne]; exact h.2 c hc hne⟩
theorem cU.same {b : Nat} {S0 S S' : St} (h0 : Same S0 S) (h : cU b S S') (hb : S0.nx ≤ b) : Same S0 S' := ⟨Al h0.1 h.1, fun c hc => (h.2 c (Ae hc h0.1) (by omega)).trans (h0.2 c hc)⟩
theorem Same.nx (S : St) (k : Nat) : Same S ⟨S.h, S.nx + k⟩ := ⟨Ck _ _, fun _ _ => rfl⟩
theorem aH : type_of% (And.intro @aK3 (And.intro @aCU (And.intro @wZ (And.intro @qJ (And.intro @xT (And.intro @tX (And.intro @oN (And.intro @uT (And.intro @sN (And.intro @oY (And.intro @uS (And.intro @sP (And.intro @aBk (And.intro @aBz (And.intro @aJC (@aFb)))))))))))))))) := And.intro @aK3 (And.intro @aCU (And.intro @wZ (And.intro @qJ (And.intro @xT (And.intro @tX (And.intro @oN (And.intro @uT (And.intro @sN (And.intro @oY (And.intro @uS (And.intro @sP (And.intro @aBk (And.intro @aBz (And.intro @aJC (@aFb)))))))))))))))
theorem aJ : type_of% (And.intro @aBO (And.intro @dP (And.intro @aFw (And.intro @aBA (And.intro @aC0 (And.intro @aFL (And.intro @xP (And.intro @xZ (And.intro @yZ (And.intro @rS (And.intro @aDb (And.intro @iB (And.intro @fA (And.intro @aAu (And.intro @iJ (And.intro @aEQ (And.intro @bL (And.intro @gH (And.intro @aBK (And.intro @aCW (And.intro @aDx (And.intro @aDu (And.intro @aDk (And.intro @aDA (And.intro @aC8 (And.intro @aC6 (And.intro @aAq (And.intro @aCV (And.intro @aG (And.intro @aE (And.intro @yD (And.intro @rV (And.intro @xW (And.intro @yY (And.intro @nK (And.intro @jL (And.intro @vA (And.intro @rT (And.intro @aBB (And.intro @rY (And.intro @xV (And.intro @aJL (And.intro @aIe (And.intro @aJf (And.intro @aIM (And.intro @yH (And.intro @tZ (And.intro @qU (And.intro @yP (And.intro @gD (And.intro @tY (And.intro @uU (And.intro @nF (And.intro @iD (And.intro @uQ (And.intro @yW (And.intro @dO (And.intro @yA (And.intro @aA9 (And.intro @mK (And.intro @uW (And.intro @Bb (And.intro @false_implies (And.intro @true_implies (And.intro @true_and (And.intro @and_true (And.intro @Aj (And.intro @Int.cast_ofNat_Int (And.intro @Int.natCast_zero (And.intro @Int.natCast_one (And.intro (@aF (T AB)) (And.intro (@aL (T AB)) (And.intro (@aF AV) (And.intro (@aL AV) (And.intro (@Bw AV) (And.intro (@Cp AV) (And.intro (@Bk AV) (And.intro (@Bw Nat) (And.intro (@Cp Nat) (@Bk Nat)))))))))))))))))))))))))))))))))))))))))))))))))))))))))))))))))))))))))))))))) := And.intro @aBO (And.intro @dP (And.intro @aFw (And.intro @aBA (And.intro @aC0 (And.intro @aFL (And.intro @xP (And.intro @xZ (And.intro @yZ (And.intro @rS (And.intro @aDb (And.intro @iB (And.intro @fA (And.intro @aAu (And.intro @iJ (And.intro @aEQ (And.intro @bL (And.intro @gH (And.intro @aBK (And.intro @aCW (And.intro @aDx (And.intro @aDu (And.intro @aDk (And.intro @aDA (And.intro @aC8 (And.intro @aC6 (And.intro @aAq (And.intro @aCV (And.intro @aG (And.intro @aE (And.intro @yD (And.intro @rV (And.intro @xW (And.intro @yY (And.intro @nK (And.intro @jL (And.intro @vA (And.intro @rT (And.intro @aBB (And.intro @rY (And.intro @xV (And.intro @aJL (And.intro @aIe (And.intro @aJf (And.intro @aIM (And.intro @yH (And.intro @tZ (And.intro @qU (And.intro @yP (And.intro @gD (And.intro @tY (And.intro @uU (And.intro @nF (And.intro @iD (And.intro @uQ (And.intro @yW (And.intro @dO (And.intro @yA (And.intro @aA9 (And.intro @mK (And.intro @uW (And.intro @Bb (And.intro @false_implies (And.intro @true_implies (And.intro @true_and (And.intro @and_true (And.intro @Aj (And.intro @Int.cast_ofNat_Int (And.intro @Int.natCast_zero (And.intro @Int.natCast_one (And.intro (@aF (T AB)) (And.intro (@aL (T AB)) (And.intro (@aF AV) (And.intro (@aL AV) (And.intro (@Bw AV) (And.intro (@Cp AV) (And.intro (@Bk AV) (And.intro (@Bw Nat) (And.intro (@Cp Nat) (@Bk Nat)))))))))))))))))))))))))))))))))))))))))))))))))))))))))))))))))))))))))))))))
theorem vE (a : AV) (l : List AV) : lP (.tup (a :: l)) 0 = some a := rfl
theorem vD (a b : AV) (l : List AV) : lP (.tup (a :: b :: l)) 1 = some b := rfl
theorem ex2 (a b c : AV) (l : List AV) : lP (.tup (a :: b :: c :: l)) 2 = some c := rfl
end Go.Ev.Gl
