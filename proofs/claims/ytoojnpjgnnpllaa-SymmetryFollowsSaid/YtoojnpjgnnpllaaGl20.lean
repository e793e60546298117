import Derived.Test.YtoojnpjgnnpllaaGl19
open Nat renaming reduceEqDiff → rE, reduceAdd → rA
set_option maxHeartbeats 16000000
set_option linter.unusedSimpArgs false
set_option linter.unusedVariables false
namespace Go.Ev.Gl
variable {fns : T eJ}
theorem aCg {a b : List Int} : (jG a b).length = a.length := by unfold jG; rw [Av]
structure fR (g : bF) (m : List Int) : Prop where
 M : rN g m
 nd : ¬ aFz m
 A : lG g m
section
variable {g : bF} {a b c m : List Int}
theorem fR.e (h : fR g m) : lD g.nodes.length m (lG g m) = 0 := by
 unfold lD
 rw [if_neg (fun e => e h.M.len), if_neg (fun e => e h.M.inn), if_neg h.nd, if_pos h.A]
theorem fR.chk (h : fR g m) (hf : dF g = 0) : oL g m (lG g m) = 0 := by
 unfold oL
 rw [if_neg (fun e => e hf)]
 exact h.e
theorem fR.inj (h : fR g m) {i k : Nat} (hi : i < g.nodes.length) (hk : k < g.nodes.length) (e : eK m i = eK m k) : i = k := by
 have h1 := (h.M.at hi).1
 have h2 := (h.M.at hk).1
 have hl := h.M.len
 rcases Ek i k with hlt | he | hlt
 ·exact absurd ⟨k, i, hlt, by omega, by omega⟩ h.nd
 ·exact he
 ·exact absurd ⟨i, k, hlt, by omega, by omega⟩ h.nd
theorem aAx (h : rN g a) {i : Nat} (hi : i < g.nodes.length) : eK (jG a b) i = eK b (eK a i) := by
 unfold eK
 rw [qB (by rw [h.len]; exact hi)]
theorem aGt (hl : m.length = g.nodes.length) (h : ∀ i, i < g.nodes.length → 0 ≤ m.getD i 0 ∧ m.getD i 0 < (g.nodes.length : Int)) : rN g m := ⟨hl, fun x hx => by
 obtain ⟨j, hj, rfl⟩ := Eb.1 hx
 have := h j (by omega)
 rwa [Ac, Ab hj] at this⟩
theorem aGP (ha : rN g a) (hb : rN g b) : rN g (jG a b) := aGt (by rw [aCg]; exact ha.len) fun i hi => by
 rw [qB (by rw [ha.len]; exact hi)]
 have h1 := (ha.at hi).2
 have h2 := hb.at h1
 unfold eK at h1 h2
 omega
theorem aCI {l : List Int} {x : Int} (h : 0 ≤ oM l 0 x) : (oM l 0 x).toNat < l.length ∧ l.getD (oM l 0 x).toNat 0 = x := by
 rcases mA (c := x) (l := l) (s := 0) with ⟨h1, _⟩ | ⟨k, h1, h2, _⟩
 ·omega
 ·have e : (oM l 0 x).toNat = k := by omega
  rw [e]
  exact ⟨(Ai.1 h2).1, by rw [Ac, h2]; rfl⟩
theorem aCl (G : dT g) (ha : rN g a) {i k : Nat} (hi : i < g.nodes.length) (hk : k < (nodeAt g i).next.length) (h0 : 0 ≤ fC g a i k) : fC g (jG a b) i k = fC g b (eK a i) (fC g a i k).toNat ∧ (fC g a i k).toNat < (nodeAt g (eK a i)).next.length := by
 obtain ⟨c1, c2⟩ := G.kids i hi k hk
 obtain ⟨p1, p2⟩ := aCI h0
 refine ⟨?_, p1⟩
 have e2 : (nodeAt g (eK a i)).next.getD (fC g a i k).toNat 0 = a.getD ((nodeAt g i).next.getD k 0).toNat 0 := p2
 unfold fC at e2 ⊢
 rw [aAx ha hi, qB (by rw [ha.len]; omega), e2]
theorem aHK (G : dT g) (ha : fR g a) (hb : fR g b) : fR g (jG a b) := by
 have hM := aGP ha.M hb.M
 have hk := fun i k (hi : i < g.nodes.length) (hk : k < (nodeAt g i).next.length) => aCl (b := b) G ha.M hi hk (ha.A.kid i k hi hk)
 have hm := fun i (hi : i < g.nodes.length) => aAx (b := b) ha.M hi
 refine ⟨hM, ?_, ⟨?_, fun i hi => ?_, fun i k hi hki => ?_, fun i k hi hki h1 => ?_, fun i j hi hj h1 h2 he => ?_, fun i j hi hj h1 h2 he => ?_⟩⟩
 ·rintro ⟨i, k, hki, hi, he⟩
  rw [aCg, ha.M.len] at hi
  have e1 := (hM.at hi).1
  have e2 := (hM.at (show k < g.nodes.length by omega)).1
  have : eK (jG a b) i = eK (jG a b) k := by omega
  rw [hm i hi, hm k (by omega)] at this
  have := ha.inj hi (by omega) (hb.inj (ha.M.at hi).2 (ha.M.at (show k < g.nodes.length by omega)).2 this)
  omega
 ·rw [qB (by rw [ha.M.len]; exact G.n1), ha.A.root]
  exact hb.A.root
 ·rw [hm i hi]
  obtain ⟨x1, x2, x3, x4⟩ := ha.A.like i hi
  obtain ⟨y1, y2, y3, y4⟩ := hb.A.like _ (ha.M.at hi).2
  exact ⟨x1.trans y1, x2.trans y2, x3.trans y3, x4.trans y4⟩
 ·rw [(hk i k hi hki).1]
  exact hb.A.kid _ _ (ha.M.at hi).2 (hk i k hi hki).2
 ·rw [(hk i k hi hki).1, hm i hi, ha.A.weigh i k hi hki h1]
  exact hb.A.weigh _ _ (ha.M.at hi).2 (hk i k hi hki).2 (by rw [← (ha.A.like i hi).1]; exact h1)
 ·obtain ⟨x1, x2⟩ := ha.A.info i j hi hj h1 h2 he
  have l1 := (ha.A.like i hi).1
  have l2 := (ha.A.like j hj).1
  have hlen : (nodeAt g j).next.length = (nodeAt g i).next.length := by
   have a3 := (G.inf i hi h1).2.2
   have b3 := (G.inf j hj h2).2.2
   rw [← he, a3] at b3
   omega
  obtain ⟨y1, y2⟩ := hb.A.info _ _ (ha.M.at hi).2 (ha.M.at hj).2 (by rw [← l1]; exact h1) (by rw [← l2]; exact h2) x1
  rw [hm i hi, hm j hj]
  refine ⟨y1, fun k hki => ?_⟩
  rw [(hk i k hi hki).1, (hk j k hj (by omega)).1, ← x2 k hki]
  exact y2 _ (hk i k hi hki).2
 ·rw [hm i hi, hm j hj] at he
  have l1 := (ha.A.like i hi).1
  have l2 := (ha.A.like j hj).1
  exact ha.A.inj i j hi hj h1 h2 (hb.A.inj _ _ (ha.M.at hi).2 (ha.M.at hj).2 (by rw [← l1]; exact h1) (by rw [← l2]; exact h2) he)
def aEG (g : bF) (m : List Int) : Prop := ∀ i, i < g.nodes.length → eK m (eK m i) = i
end
def lQ (j : Int) : List cE → Nat → Nat
 | [], _ => 0
 | t :: L, a => (if t.1 = j then (t.2.2 + 1 - (a : Int)).toNat else 0) + lQ j L (a + 1)
theorem sM {j : Int} : ∀ {L M : List cE} {a : Nat}, lQ j (L ++ M) a = lQ j L a + lQ j M (a + L.length)
 | [], M, a => by show lQ j M a = 0 + lQ j M (a + 0); rw [Am]; rfl
 | t :: L, M, a => by
  show _ + lQ j (L ++ M) (a + 1) = _ + lQ j L (a + 1) + lQ j M (a + (L.length + 1))
  rw [sM (L := L), show a + 1 + L.length = a + (L.length + 1) by omega, Ct]
theorem pG {j : Int} : ∀ {L : List cE} {a : Nat}, (∀ t ∈ L, t.1 ≠ j) → lQ j L a = 0
 | [], _, _ => rfl
 | t :: L, a, h => by
  show (if t.1 = j then _ else 0) + lQ j L (a + 1) = 0
  rw [if_neg (h t (Bm ..)), pG fun t ht => h t (Bg _ ht)]
structure KZ (r : Nat) (p : Int) (L : List cE) : Prop where
 par : ∀ t ∈ L, t.1 = p ∨ ((r : Int) ≤ t.1 ∧ t.1 < ((r + L.length : Nat) : Int))
 sz : ∀ (j : Nat) (t : cE), L[j]? = some t → t.2.2 = ((r + j + lQ ((r + j : Nat) : Int) L r : Nat) : Int) ∧ t.2.2 < ((r + L.length : Nat) : Int)
 all : lQ p L r = L.length
 nest : ∀ (j q : Nat) (t u : cE), L[j]? = some t → L[q]? = some u → j < q → ((r + q : Nat) : Int) ≤ t.2.2 → ((r + j : Nat) : Int) ≤ u.1
theorem KZ.nil {r : Nat} {p : Int} : KZ r p [] := ⟨fun t ht => (by cases ht), fun j t h => (by simp at h), rfl, fun j q t u h => (by simp at h)⟩
theorem KZ.app {r : Nat} {p : Int} {L M : List cE} (hp : p < (r : Int)) (h1 : KZ r p L) (h2 : KZ (r + L.length) p M) : KZ r p (L ++ M) := by
 refine ⟨fun t ht => ?_, fun j t hj => ?_, by rw [sM, h1.all, h2.all, Ah], fun j q t u hj hq hlt hle => ?_⟩
 ·rw [Ah]
  rcases Bh.1 ht with h | h
  ·rcases h1.par t h with e | e
   ·exact .inl e
   ·exact .inr (by omega)
  ·rcases h2.par t h with e | e
   ·exact .inl e
   ·exact .inr (by omega)
 ·rw [Ah, sM]
  by_cases hlt : j < L.length
  ·rw [An hlt] at hj
   obtain ⟨a, b⟩ := h1.sz j t hj
   rw [pG (L := M) fun t ht => by
    rcases h2.par t ht with e | e
    ·omega
    ·omega, Bj]
   exact ⟨a, by omega⟩
  ·rw [Ao (by omega)] at hj
   obtain ⟨a, b⟩ := h2.sz (j - L.length) t hj
   rw [show r + L.length + (j - L.length) = r + j by omega] at a
   rw [pG (L := L) fun t ht => by
    rcases h1.par t ht with e | e
    ·omega
    ·omega, Am]
   exact ⟨a, by omega⟩
 ·by_cases hj1 : j < L.length
  ·rw [An hj1] at hj
   have := (h1.sz j t hj).2
   rw [An (by omega)] at hq
   exact h1.nest j q t u hj hq hlt hle
  ·rw [Ao (by omega)] at hj hq
   have := h2.nest _ _ t u hj hq (by omega) (by rw [show r + L.length + (q - L.length) = r + q by omega]; exact hle)
   rwa [show r + L.length + (j - L.length) = r + j by omega] at this
theorem aGC {rec : Nat → Option (List cE)} {p : Int} (hr : ∀ (r : Nat) (L : List cE), p < (r : Int) → rec r = some L → KZ r p L) : ∀ {l : List Int} {r : Nat} {L : List cE}, p < (r : Int) → fI rec l r = some L → KZ r p L
 | [], r, L, _, h => by
  have h : some [] = some L := h
  cases h
  exact KZ.nil
 | c :: l, r, L, hp, h => by
  simp only [fI] at h
  split at h
  ·obtain ⟨L1, h1, h2⟩ := Cc.1 h
   obtain ⟨L2, h3, rfl⟩ := Aw.1 h2
   exact (hr r L1 hp h1).app hp (aGC hr (by omega) h3)
  ·cases h
theorem wY {N : Nat} {nx : Nat → List Int} : ∀ {f at_ : Nat} {p d : Int} {T : List cE}, p < (at_ : Int) → eS N nx f at_ p d = some T → KZ at_ p T
 | 0, _, _, _, _, _, h => by cases h
 | f + 1, at_, p, d, T, hp, h => by
  simp only [eS] at h
  split at h
  ·obtain ⟨L, h1, rfl⟩ := Aw.1 h
   have k := aGC (p := (at_ : Int)) (fun r L hr hL => wY hr hL) (by omega) h1
   refine ⟨fun t ht => ?_, fun j t hj => ?_, ?_, fun j q t u hj hq hlt hle => ?_⟩
   ·rw [Az]
    rcases Br.1 ht with rfl | ht
    ·exact .inl rfl
    ·rcases k.par t ht with e | e
     ·exact .inr (by omega)
     ·exact .inr (by omega)
   ·rw [Az]
    cases j with
    | zero =>
     cases hj
     rw [Bj]
     show ((at_ + L.length : Nat) : Int) = ((at_ + ((if p = ((at_ : Nat) : Int) then _ else 0) + lQ _ L (at_ + 1)) : Nat) : Int) ∧ _
     rw [if_neg (by omega), Am, k.all]
     exact ⟨rfl, by show ((at_ + L.length : Nat) : Int) < _; omega⟩
    | succ j =>
     obtain ⟨a, b⟩ := k.sz j t hj
     show t.2.2 = ((at_ + (j + 1) + ((if p = ((at_ + (j + 1) : Nat) : Int) then _ else 0) + lQ _ L (at_ + 1)) : Nat) : Int) ∧ _
     rw [if_neg (by omega), Am, a, show at_ + 1 + j = at_ + (j + 1) by omega]
     exact ⟨rfl, by rw [← show at_ + 1 + j = at_ + (j + 1) by omega, ← a]; omega⟩
   ·show (if p = p then (((at_ + L.length : Nat) : Int) + 1 - (at_ : Int)).toNat else 0) + lQ p L (at_ + 1) = L.length + 1
    rw [if_pos rfl, pG fun t ht => by
     rcases k.par t ht with e | e
     ·omega
     ·omega]
    omega
   ·obtain ⟨q, rfl⟩ : ∃ q', q = q' + 1 := ⟨q - 1, by omega⟩
    cases j with
    | zero =>
     have hq' : L[q]? = some u := hq
     rcases k.par u (Bx hq') with e | e
     ·omega
     ·omega
    | succ j =>
     have hj' : L[j]? = some t := hj
     have hq' : L[q]? = some u := hq
     have := k.nest j q t u hj' hq' (by omega) (by rw [show at_ + 1 + q = at_ + (q + 1) by omega]; exact hle)
     rwa [show at_ + 1 + j = at_ + (j + 1) by omega] at this
  ·cases h
def eG (T : List cE) (i : Nat) : Nat := match T[i]? with | some t => (t.2.2 + 1 - (i : Int)).toNat | none => 0
section
variable {T : List cE}
theorem wL (k : KZ 0 (-1) T) {i : Nat} (hi : i < T.length) : eG T i = 1 + lQ (i : Int) T 0 ∧ eG T i ≤ T.length ∧ i + eG T i ≤ T.length := by
 obtain ⟨a, b⟩ := k.sz i T[i] (Ab hi)
 have e : eG T i = (T[i].2.2 + 1 - (i : Int)).toNat := by unfold eG; rw [Ab hi]
 rw [Am] at a b
 omega
def SzI (T : List cE) (i : Nat) (Z : List Int) : Prop := Z.length = T.length ∧ ∀ j, j < T.length → Z.getD j 0 = if i ≤ j then ((eG T j : Nat) : Int) else ((lQ (j : Int) (T.drop i) i : Nat) : Int)
theorem aLN (k : KZ 0 (-1) T) (hN : T.length ≤ 100000) (hpar : ∀ (j : Nat) (t : cE), T[j]? = some t → t.1 < (j : Int) ∧ (0 < j → 0 ≤ t.1)) {i : Nat} {Z : List Int} (hi : i < T.length) (h : SzI T (i + 1) Z) : SzI T i (szS T i Z) := by
 obtain ⟨hl, hz⟩ := h
 have hT := Ab hi
 obtain ⟨p1, p2⟩ := hpar i T[i] hT
 have hdrop : T.drop i = T[i] :: T.drop (i + 1) := Cj hi
 have hsp := fun j : Nat => show lQ (j : Int) (T.drop i) i = (if T[i].1 = (j : Int) then eG T i else 0) + lQ (j : Int) (T.drop (i + 1)) (i + 1) by
  rw [hdrop]
  have e : eG T i = (T[i].2.2 + 1 - (i : Int)).toNat := by unfold eG; rw [hT]
  rw [e]
  rfl
 have htk : ∀ j, i ≤ j → lQ (j : Int) T 0 = lQ (j : Int) (T.drop (i + 1)) (i + 1) := fun j hij => by
  conv => lhs; rw [← List.take_append_drop (i + 1) T]
  rw [sM, Bs, show min (i + 1) T.length = i + 1 by omega, Am, pG (L := T.take (i + 1)), Am]
  intro t ht
  obtain ⟨q, hq, rfl⟩ := Eb.1 ht
  rw [Bs] at hq
  rw [List.getElem_take]
  have := (hpar q T[q] (Ab (by omega))).1
  omega
 have e1 := wL k hi
 rw [htk i (Af _)] at e1
 have hzi := hz i hi
 rw [if_neg (by omega)] at hzi
 have hw : IntKind.i64.wrap (Z.getD i 0 + 1) = ((eG T i : Nat) : Int) := by rw [hzi, wrap_i64 (by omega) (by omega)]; omega
 unfold szS
 rw [hw]
 have hset : ∀ j, (Z.set i ((eG T i : Nat) : Int)).getD j 0 = if j = i then ((eG T i : Nat) : Int) else Z.getD j 0 := fun j => fS (by omega)
 by_cases h0 : 0 < i
 ·rw [if_pos h0]
  obtain ⟨q, hq⟩ : ∃ q : Nat, T[i].1 = (q : Int) := ⟨T[i].1.toNat, by have := p2 h0; omega⟩
  have hqi : q < i := by omega
  have hpm : (T.map fun t : cE => t.1).getD i 0 = (q : Int) := by rw [Ac, Bc, hT, ← hq]; rfl
  rw [hpm, Ba, hset q, if_neg (by omega), hset i, if_pos rfl]
  have hzq := hz q (by omega)
  rw [if_neg (by omega)] at hzq
  have hb : lQ (q : Int) (T.drop i) i ≤ T.length := by
   have e2 := wL k (show q < T.length by omega)
   have : lQ (q : Int) (T.drop i) i ≤ lQ (q : Int) T 0 := by
    conv => rhs; rw [← List.take_append_drop i T]
    rw [sM, Bs, show min i T.length = i by omega, Am]
    omega
   omega
  have hsq := hsp q
  rw [if_pos hq] at hsq
  have hw2 : IntKind.i64.wrap (Z.getD q 0 + ((eG T i : Nat) : Int)) = ((lQ (q : Int) (T.drop i) i : Nat) : Int) := by rw [hzq, wrap_i64 (by omega) (by omega)]; omega
  rw [hw2]
  refine ⟨by rw [Au, Au]; exact hl, fun j hj => ?_⟩
  rw [fS (by rw [Au]; omega), hset j]
  by_cases ej : j = q
  ·rw [if_pos ej, if_neg (by omega), ej]
  ·rw [if_neg ej]
   by_cases eji : j = i
   ·rw [if_pos eji, if_pos (by omega), eji]
   ·rw [if_neg eji, hz j hj]
    by_cases hij : i ≤ j
    ·rw [if_pos (by omega), if_pos hij]
    ·rw [if_neg (by omega), if_neg hij, hsp j, if_neg (by omega), Am]
 ·rw [if_neg h0]
  refine ⟨by rw [Au]; exact hl, fun j hj => ?_⟩
  rw [hset j]
  by_cases eji : j = i
  ·rw [if_pos eji, if_pos (by omega), eji]
  ·rw [if_neg eji, hz j hj, if_pos (by omega), if_pos (by omega)]
theorem aJs (k : KZ 0 (-1) T) (hN : T.length ≤ 100000) (hpar : ∀ (j : Nat) (t : cE), T[j]? = some t → t.1 < (j : Int) ∧ (0 < j → 0 ≤ t.1)) : ∀ {i : Nat} {Z : List Int}, i ≤ T.length → SzI T i Z → SzI T 0 (szG T i Z)
 | 0, Z, _, h => h
 | i + 1, Z, hi, h => aJs k hN hpar (i := i) (Z := szS T i Z) (by omega) (aLN k hN hpar (by omega) h)
theorem aAs {g : bF} (hT : fK g = some T) (hl : T.length = g.nodes.length) (hN : g.nodes.length ≤ 100000) {i : Nat} (hi : i < g.nodes.length) : (szL T g.nodes.length).getD i 0 = ((eG T i : Nat) : Int) ∧ 1 ≤ eG T i ∧ i + eG T i ≤ g.nodes.length := by
 have hw : eS g.nodes.length (dN g) (g.nodes.length + 1) 0 (-1) 0 = some T := hT
 have k := wY (by decide) hw
 have hf := kR hw
 have hpar : ∀ (j : Nat) (t : cE), T[j]? = some t → t.1 < (j : Int) ∧ (0 < j → 0 ≤ t.1) := fun j t hj => by
  have hlt := (Ai.1 hj).1
  rcases Be j with h0 | h0
  ·subst h0
   have := hf.root
   unfold jC at this
   rw [hj] at this
   have e : t.1 = -1 := Bq this
   exact ⟨by omega, fun h => absurd h (Nat.lt_irrefl 0)⟩
  ·obtain ⟨q, a, b, _⟩ := hf.pf j h0 hlt
   unfold jC at b
   rw [hj] at b
   have e : t.1 = ((0 + q : Nat) : Int) := Bq b
   exact ⟨by omega, fun _ => by omega⟩
 have h0 : SzI T T.length (List.replicate g.nodes.length 0) := ⟨by rw [Ap, hl], fun j hj => by
  rw [if_neg (by omega), Cv (Af _), aHs (by omega)]
  rfl⟩
 have h1 := (aJs k (by omega) hpar (Af _) h0).2 i (by omega)
 rw [if_pos (Ci _), hl] at h1
 obtain ⟨e1, e2, e3⟩ := wL k (show i < T.length by omega)
 exact ⟨h1, by omega, by omega⟩
theorem aFP {g : bF} (hT : fK g = some T) (hl : T.length = g.nodes.length) {i p q : Nat} (hi : i < g.nodes.length) (hpq : p < q) (hq : q < (nodeAt g i).next.length) (hN : g.nodes.length ≤ 100000) : ((nodeAt g i).next.getD p 0).toNat + eG T ((nodeAt g i).next.getD p 0).toNat ≤ ((nodeAt g i).next.getD q 0).toNat := by
 have hw : eS g.nodes.length (dN g) (g.nodes.length + 1) 0 (-1) 0 = some T := hT
 have k := wY (by decide) hw
 have hf := kR hw
 have hnx : dN g (0 + i) = (nodeAt g i).next := by rw [Am]; exact iA g i
 have mem := fun t (ht : t < (nodeAt g i).next.length) => show (nodeAt g i).next.getD t 0 ∈ dN g (0 + i) by
  rw [hnx, Ac, Ab ht]; exact Bt ht
 have hinc := hf.inc i (by omega)
 rw [hnx] at hinc
 have hlt : (nodeAt g i).next.getD p 0 < (nodeAt g i).next.getD q 0 := by
  have := List.pairwise_iff_getElem.1 hinc p q (by omega) hq hpq
  rw [Ac, Ab (show p < (nodeAt g i).next.length by omega), Ac, Ab hq]
  exact this
 obtain ⟨a1, a2, a3⟩ := hf.cf i (by omega) _ (mem p (by omega))
 obtain ⟨b1, b2, b3⟩ := hf.cf i (by omega) _ (mem q hq)
 obtain ⟨x, hx⟩ : ∃ x : Nat, (nodeAt g i).next.getD p 0 = (x : Int) := ⟨_, (Dg (by omega)).symm⟩
 obtain ⟨y, hy⟩ : ∃ y : Nat, (nodeAt g i).next.getD q 0 = (y : Int) := ⟨_, (Dg (by omega)).symm⟩
 rw [hx] at a1 a2 a3 hlt
 rw [hy] at b1 b2 b3 hlt
 rw [hx, hy, Ba, Ba]
 have hxT : T[x]? = some T[x] := Ab (by omega)
 have hyT : T[y]? = some T[y] := Ab (by omega)
 have hpar : T[y].1 = (i : Int) := by
  unfold jC at b3
  rw [Ba, Nat.sub_zero, hyT] at b3
  have e : T[y].1 = ((0 + i : Nat) : Int) := Bq b3
  omega
 have e : eG T x = (T[x].2.2 + 1 - (x : Int)).toNat := by unfold eG; rw [hxT]
 rw [e]
 rcases Int.lt_or_le T[x].2.2 (y : Int) with h | h
 ·omega
 ·have := k.nest x y _ _ hxT hyT (by omega) (by rw [Am]; exact h)
  omega
end
def idL (n : Nat) : List Int := (List.range n).map fun j : Nat => (j : Int)
theorem mZ {n j : Nat} {f : Nat → Int} (h : j < n) : ((List.range n).map f).getD j 0 = f j := by
 rw [Ac, Bc, Dh h]
 rfl
theorem aCE {n : Nat} {f : Nat → Int} {l : List Int} (hl : l.length = n) (h : ∀ j, j < n → l.getD j 0 = f j) : l = (List.range n).map f :=
 tG (by rw [hl, Av, Cy]) fun j hj => by rw [h j (by omega), mZ (by omega)]
def swF (a b n j : Nat) : Nat := if a ≤ j ∧ j < a + n then j - a + b else if b ≤ j ∧ j < b + n then j - b + a else j
def xI (N a b n : Nat) : List Int := (List.range N).map fun j : Nat => ((swF a b n j : Nat) : Int)
theorem aBZ {S : St} {wb : Nat} {nv iv pv plv szv : AV} {g : bF} (H : Has fns) (hW : pF S wb g.players nv iv pv plv szv) (hn : aM 6 cL S nv g.nodes) (hN : g.nodes.length ≤ 100000) : iM fns (.fn 154 [] []) [.ptr wb 0] S fun r S' => zO S S' r (idL g.nodes.length) ∧ Same S S' := by
 refine cV H.f154 (by simp) ?_
 simp only [↓aH,aJ,rE,↓reduceIte, rA]
 refine cF ?_
 simp only [↓aH,aJ,rE,↓reduceIte, rA]
 refine cF ?_
 simp only [↓aH,aJ,rE,↓reduceIte, rA, aS, aR, aA, aB, eY hW.1, hn.len]
 refine iO (qR (n := g.nodes.length) (by simp only [↓aH,aJ,rE,↓reduceIte, rA, aG]) (by simp only [↓aH,aJ,rE,↓reduceIte, rA, aG]) (by unfold room; omega) (by unfold room; omega)) ?_
 intro S1 s1 n1 c1
 rw [tB] at c1
 simp only [↓aH,aJ,rE,↓reduceIte, rA]
 generalize g.nodes.length = n at *
 refine aD (bN (Q := fun o A' X => o = .normal ∧ aCH S S.nx n (fun j => (j : Int)) (fun F i => aC 3 F = .sl S.nx 0 n n false ∧ aC 13 F = .int .i64 (n : Int) ∧ aC 14 F = .int .i64 (i : Int)) 0 A' X) (aD (aP ?_)) ?_)
 ·have e0 : lW (.sl S.nx 0 n n false) = some (.int .i64 (n : Int)) := rfl
  simp only [↓aH,aJ,rE,↓reduceIte, rA, e0]
  refine aU (cI (aCH S S.nx n (fun j => (j : Int)) (fun F i => aC 3 F = .sl S.nx 0 n n false ∧ aC 13 F = .int .i64 (n : Int) ∧ aC 14 F = .int .i64 (i : Int))) ?_ n _ _ ⟨rfl, s1, by omega, 0, _, by omega, Ap .., fun j hj => by omega, c1, by simp only [↓aH,aJ,rE,↓reduceIte, rA], by simp only [↓aH,aJ,rE,↓reduceIte, rA], by simp only [↓aH,aJ,rE,↓reduceIte, rA]; try rfl⟩)
  rintro k ⟨F, inr⟩ X ⟨q0, hX, hb, i, l, hik, hl, hf, hc, p3, p8, p9⟩
  simp only at q0 p3 p8 p9
  subst q0
  refine cF ?_
  simp only [↓aH,aJ,rE,↓reduceIte, rA, p8, p9]
  by_cases hlt : i < n
  ·refine aD (aY (by simp only [↓aH,aJ,rE,↓reduceIte, rA, Ad (show (i : Int) < (n : Int) by omega)]) (aN ?_))
   try simp only [↓aH,aJ,rE,↓reduceIte, rA]
   have w1 : IntKind.i64.wrap ((i : Int) + 1) = ((i + 1 : Nat) : Int) := by rw [wrap_i64 (by omega) (by omega)]; omega
   have hia := fV (b := S.nx) (o := false) hlt
   refine aD (aU (aD (aP ?_)))
   simp only [↓aH,aJ,rE,↓reduceIte, rA, p9]
   refine aP ?_
   simp only [↓aH,aJ,rE,↓reduceIte, rA, p3, aG, hia]
   refine fX (fun call => by simp only [↓aH,aJ,rE,↓reduceIte, rA, dW, cT]; exact uA (S := X) hc (by rw [hl]; exact hlt)) ?_
   simp only [↓aH,aJ,rE,↓reduceIte, rA]
   refine aP ?_
   simp only [↓aH,aJ,rE,↓reduceIte, rA, p9, w1]
   refine ⟨k - 1, by omega, rfl, hX.put (Af _) _, hb, i + 1, l.set i (i : Int), by omega, by rw [Au]; exact hl, fun j hj => ?_, by simp only; rw [T.get_set, if_pos rfl], by refine ⟨?_,?_,?_⟩<;>simp only [↓aH,aJ,rE,↓reduceIte,rA,p3,p8]⟩
   rw [fS (by rw [hl]; exact hlt)]
   split
   ·rename_i e; rw [e]
   ·exact hf j (by omega)
  ·refine aD (aT (by simp only [↓aH,aJ,rE,↓reduceIte, rA, Aa (show ¬ (i : Int) < (n : Int) by omega)]) (cC ?_))
   simp only [↓aH,aJ,rE,↓reduceIte, rA]
   have hk0 : k = 0 := by omega
   subst hk0
   exact ⟨rfl, hX, hb, i, l, hik, hl, hf, hc, by refine ⟨?_,?_,?_⟩<;>simp only [↓aH,aJ,rE,↓reduceIte,rA,p3,p8,p9]⟩
 rintro o ⟨F, inr⟩ X ⟨rfl, q0, hX, hb, i, l, hik, hl, hf, hc, p3, p8, p9⟩
 simp only at q0 p3
 subst q0
 obtain rfl : i = n := by omega
 obtain rfl : l = idL i := aCE hl hf
 try simp only [↓aH,aJ,rE,↓reduceIte, rA]
 refine cF ?_
 simp only [↓aH,aJ,rE,↓reduceIte, rA, p3]
 refine bD ?_
 simp only [↓aH,aJ,rE,↓reduceIte, rA]
 exact ⟨⟨S.nx, by rw [hl], Af _, hb, hc⟩, hX⟩
def aM5 (S1 : St) (wb rb N a b n : Nat) (k : Nat) (A : bT) (X : St) : Prop := A.inr = false ∧ Same S1 X ∧ rb < X.nx ∧ ∃ (t : Nat) (l : List Int), t + k = n ∧ l.length = N ∧ (∀ j, j < N → l.getD j 0 = ((swF a b t j : Nat) : Int)) ∧ X.h.get rb = some (.cells (bB l) false 0) ∧ aC 1 A.F = .int .i64 (a : Int) ∧ aC 2 A.F = .int .i64 (b : Int) ∧ aC 7 A.F = .sl rb 0 N N false ∧ aC 17 A.F = .int .i64 (n : Int) ∧ aC 18 A.F = .int .i64 (t : Int)
theorem aGN {S : St} {wb plb szb a b n : Nat} {nv iv pv : AV} {g : bF} {R Z : List Int} (H : Has fns) (hB : iE S wb plb szb pv nv iv g R Z) (hn : aM 6 cL S nv g.nodes) (hN : g.nodes.length ≤ 100000) (hz : Z.getD a 0 = (n : Int)) (hab : a + n ≤ b) (hbn : b + n ≤ g.nodes.length) (ha : a < g.nodes.length) : iM fns (.fn 115 [] []) [.ptr wb 0, .int .i64 (a : Int), .int .i64 (b : Int)] S fun r S' => zO S S' r (xI g.nodes.length a b n) ∧ Same S S' := by
 refine cV H.f115 (by simp) ?_
 simp only [↓sU,sD,rE,↓reduceIte,rA]
 refine cF ?_
 simp only [↓sU,sD,rE,↓reduceIte,rA]
 refine cF ?_
 simp only [↓sU,sD,rE,↓reduceIte,rA]
 refine bJ ?_
 simp only [↓sU,sD,rE,↓reduceIte,rA]
 refine aW (aBZ H hB.w hn hN) ?_
 rintro r S1 ⟨⟨rb, rfl, r1, r2, r3⟩, s1⟩
 try simp only [↓sU,sD,rE,↓reduceIte,rA]
 have hlen : (idL g.nodes.length).length = g.nodes.length := by unfold idL; rw [Av, Cy]
 rw [hlen]
 have hW1 := hB.w.same s1
 have gz1 := (s1.2 _ hB.bz).trans hB.gz
 have hia := fV (b := szb) (o := false) ha
 have hla := aBV gz1 (p := a) (by rw [hB.lz]; exact ha)
 rw [hz] at hla
 refine jH ?_
 simp only [↓sU,sD,rE,↓reduceIte,rA, aS, aR, aA, aB, gI hW1.1, aG, hia, hla]
 refine bN (Q := fun o A' X => o = .normal ∧ aM5 S wb rb g.nodes.length a b n 0 A' X) (aU (cI (aM5 S wb rb g.nodes.length a b n) ?_ n _ _ ⟨rfl, s1, r2, 0, _, by omega, hlen, fun j hj => by unfold idL swF; rw [mZ hj, if_neg (by omega), if_neg (by omega)], r3, by simp only [↓sU,sD,rE,↓reduceIte,rA], by simp only [↓sU,sD,rE,↓reduceIte,rA], by simp only [↓sU,sD,rE,↓reduceIte,rA], by simp only [↓sU,sD,rE,↓reduceIte,rA], by simp only [↓sU,sD,rE,↓reduceIte,rA]; try rfl⟩)) ?_
 rotate_left
 ·rintro o ⟨F, inr⟩ X ⟨rfl, q0, sX, hb, t, l, htk, hl, hf, gX, p1, p2, p7, p17, p18⟩
  simp only at q0 p7
  subst q0
  obtain rfl : t = n := by omega
  obtain rfl : l = xI g.nodes.length a b t := aCE hl hf
  try simp only [↓sU,sD,rE,↓reduceIte,rA]
  refine cF ?_
  simp only [↓sU,sD,rE,↓reduceIte,rA, p7]
  refine bD ?_
  simp only [↓sU,sD,rE,↓reduceIte,rA]
  exact ⟨⟨rb, by rw [hl], r1, hb, gX⟩, sX⟩
 clear hla hia gz1 hW1 r3 r2 s1
 rintro k ⟨F, inr⟩ X ⟨q0, sX, hb, t, l, htk, hl, hf, gX, p1, p2, p7, p17, p18⟩
 simp only at q0 p1 p2 p7 p17 p18
 subst q0
 refine cF ?_
 simp only [↓sU,sD,rE,↓reduceIte,rA, p17, p18]
 by_cases hlt : t < n
 rotate_left
 ·refine aD (aT (by simp only [↓sU,sD,rE,↓reduceIte,rA, Aa (show ¬ (t : Int) < (n : Int) by omega)]) (cC ?_))
  simp only [↓sU,sD,rE,↓reduceIte,rA]
  obtain rfl : k = 0 := by omega
  exact ⟨rfl, sX, hb, t, l, htk, hl, hf, gX, by refine ⟨?_,?_,?_,?_,?_⟩<;>simp only [↓sU,sD,rE,↓reduceIte,rA,p1,p2,p7,p17,p18]⟩
 refine aD (aY (by simp only [↓sU,sD,rE,↓reduceIte,rA, Ad (show (t : Int) < (n : Int) by omega)]) (aN ?_))
 try simp only [↓sU,sD,rE,↓reduceIte,rA]
 have w1 : IntKind.i64.wrap ((t : Int) + 1) = ((t + 1 : Nat) : Int) := by rw [wrap_i64 (by omega) (by omega)]; omega
 have wa : IntKind.i64.wrap ((a : Int) + (t : Int)) = ((a + t : Nat) : Int) := by rw [wrap_i64 (by omega) (by omega)]; omega
 have wb' : IntKind.i64.wrap ((b : Int) + (t : Int)) = ((b + t : Nat) : Int) := by rw [wrap_i64 (by omega) (by omega)]; omega
 have ia := fV (b := rb) (N := g.nodes.length) (o := false) (show a + t < g.nodes.length by omega)
 have ib := fV (b := rb) (N := g.nodes.length) (o := false) (show b + t < g.nodes.length by omega)
 refine aD (aU (aD (aP ?_)))
 simp only [↓sU,sD,rE,↓reduceIte,rA, p18]
 refine aP ?_
 simp only [↓sU,sD,rE,↓reduceIte,rA, p1, p2, p7, aG, wa, wb', ia]
 refine fX (v := .undef) (S1 := ⟨X.h.set rb (some (.cells (bB (l.set (a + t) ((b + t : Nat) : Int))) false 0)), X.nx⟩) (fun call => by simp only [↓sU,sD,rE,↓reduceIte,rA, dW, cT]; exact uA gX (by omega)) ?_
 simp only [↓sU,sD,rE,↓reduceIte,rA, aG, ib]
 refine fX (v := .undef) (S1 := ⟨(X.h.set rb (some (.cells (bB (l.set (a + t) ((b + t : Nat) : Int))) false 0))).set rb (some (.cells (bB ((l.set (a + t) ((b + t : Nat) : Int)).set (b + t) ((a + t : Nat) : Int))) false 0)), X.nx⟩) (fun call => by simp only [↓sU,sD,rE,↓reduceIte,rA, dW, cT]; exact uA (S := ⟨X.h.set rb (some (.cells (bB (l.set (a + t) ((b + t : Nat) : Int))) false 0)), X.nx⟩) (l := l.set (a + t) ((b + t : Nat) : Int)) (o := false) (sz := 0) (by simp only; rw [T.get_set, if_pos rfl]) (by rw [Au]; omega)) ?_
 simp only [↓sU,sD,rE,↓reduceIte,rA]
 refine aP ?_
 simp only [↓sU,sD,rE,↓reduceIte,rA, p18, w1]
 refine ⟨k - 1, by omega, rfl, ⟨sX.1, fun c hc => by simp only; rw [T.get_set, if_neg (by omega), T.get_set, if_neg (by omega)]; exact sX.2 c hc⟩, hb, t + 1, (l.set (a + t) ((b + t : Nat) : Int)).set (b + t) ((a + t : Nat) : Int), by omega, by rw [Au, Au]; exact hl, fun j hj => ?_, by simp only; rw [T.get_set, if_pos rfl], by refine ⟨?_,?_,?_,?_,?_⟩<;>simp only [↓sU,sD,rE,↓reduceIte,rA,p1,p2,p7,p17]⟩
 rw [fS (by rw [Au]; omega), fS (by omega)]
 unfold swF
 by_cases e1 : j = b + t
 ·rw [if_pos e1, if_neg (by omega), if_pos (by omega)]
  omega
 ·rw [if_neg e1]
  by_cases e2 : j = a + t
  ·rw [if_pos e2, if_pos (by omega)]
   omega
  ·rw [if_neg e2, hf j hj]
   unfold swF
   by_cases e3 : a ≤ j ∧ j < a + t
   ·rw [if_pos e3, if_pos (show a ≤ j ∧ j < a + (t + 1) by omega)]
   ·rw [if_neg e3, if_neg (show ¬ (a ≤ j ∧ j < a + (t + 1)) by omega)]
    by_cases e4 : b ≤ j ∧ j < b + t
    ·rw [if_pos e4, if_pos (show b ≤ j ∧ j < b + (t + 1) by omega)]
    ·rw [if_neg e4, if_neg (show ¬ (b ≤ j ∧ j < b + (t + 1)) by omega)]
theorem aC5 {X : St} {pa pb : Nat} {a b x y : Int} (H : Has fns) (ga : X.h.get pa = some (.cells [.int .i64 a] false 0)) (gb : X.h.get pb = some (.cells [.int .i64 b] false 0)) (ha : 0 ≤ a ∧ a ≤ 1000000) (hb : 0 ≤ b ∧ b ≤ 1000000) (hx : 0 ≤ x ∧ x ≤ 1000000) (hy : 0 ≤ y ∧ y ≤ 1000000) : iM fns (.fn 151 [] [.ptr pa 0, .ptr pb 0]) [.int .i64 x, .int .i64 y] X fun r X' => r = .bool (decide (x - a = y - b)) ∧ Same X X' := by
 have la := cS (p := 0) ga rfl
 have lb := cS (p := 0) gb rfl
 have w1 : IntKind.i64.wrap (x - a) = x - a := wrap_i64 (by omega) (by omega)
 have w2 : IntKind.i64.wrap (y - b) = y - b := wrap_i64 (by omega) (by omega)
 refine cV H.f151 (by simp) ?_
 simp only [↓sU,sD,rE,↓reduceIte,rA]
 refine cF ?_
 simp only [↓sU,sD,rE,↓reduceIte,rA]
 refine cF ?_
 simp only [↓sU,sD,rE,↓reduceIte,rA, la, lb, w1, w2]
 refine bD ?_
 simp only [↓sU,sD,rE,↓reduceIte,rA]
 exact Same.refl _
def shP (a b : Int) (l m : List Int) : Prop := l.length = m.length ∧ ∀ k, k < l.length → l.getD k 0 - a = m.getD k 0 - b
def aNj (S : St) (av bv f : AV) (a b : Int) (l m : List Int) (k : Nat) (A : bT) (X : St) : Prop := A.inr = false ∧ Same S X ∧ ∃ i, i + k = l.length ∧ (∀ j, j < i → l.getD j 0 - a = m.getD j 0 - b) ∧ aC 1 A.F = bv ∧ aC 2 A.F = f ∧ aC 15 A.F = av ∧ aC 16 A.F = .int .i64 ((l.length : Nat) : Int) ∧ aC 17 A.F = .int .i64 (i : Int)
theorem aDX {S : St} {av bv : AV} {pa pb : Nat} {a b : Int} {l m : List Int} (H : Has fns) (hl : bO .i64 S av l) (hm : bO .i64 S bv m) (ga : S.h.get pa = some (.cells [.int .i64 a] false 0)) (gb : S.h.get pb = some (.cells [.int .i64 b] false 0)) (lpa : pa < S.nx) (lpb : pb < S.nx) (ha : 0 ≤ a ∧ a ≤ 1000000) (hb : 0 ≤ b ∧ b ≤ 1000000) (hx : ∀ j, j < l.length → 0 ≤ l.getD j 0 ∧ l.getD j 0 ≤ 1000000) (hy : ∀ j, j < m.length → 0 ≤ m.getD j 0 ∧ m.getD j 0 ≤ 1000000) (hll : l.length ≤ 10000000) :
  iM fns (.fn 153 [] []) [av, bv, .fn 151 [] [.ptr pa 0, .ptr pb 0]] S fun r S' => Same S S' ∧ ∃ t, r = .bool t ∧ (t = true ↔ shP a b l m) := by
 have sav := bO.self hl
 refine cV H.f153 (by simp) ?_
 simp only [↓sU,sD,rE,↓reduceIte,rA]
 refine cF ?_
 simp only [↓sU,sD,rE,↓reduceIte,rA]
 refine jH ?_
 simp only [↓sU,sD,rE,↓reduceIte,rA, hl.len, hm.len, Aj]
 by_cases hlm : l.length = m.length
 rotate_left
 ·refine aY (by simp only [↓sU,sD,rE,↓reduceIte,rA, Ad (show ((l.length : Nat) : Int) ≠ ((m.length : Nat) : Int) by omega)]) ?_
  refine cF ?_
  simp only [↓sU,sD,rE,↓reduceIte,rA]
  refine bD ?_
  simp only [↓sU,sD,rE,↓reduceIte,rA]
  exact ⟨Same.refl _, false, rfl, fun h => (by cases h), fun h => absurd h.1 hlm⟩
 refine aT (by simp only [↓sU,sD,rE,↓reduceIte,rA, Aa (show ¬ ((l.length : Nat) : Int) ≠ ((m.length : Nat) : Int) by omega)]) (aN ?_)
 try simp only [↓sU,sD,rE,↓reduceIte,rA]
 refine aD (bN (Q := fun o A' X => (o = .normal ∧ aNj S av bv (.fn 151 [] [.ptr pa 0, .ptr pb 0]) a b l m 0 A' X) ∨ (o = .ret ∧ Same S X ∧ ¬ shP a b l m ∧ aC 6 A'.F = .bool false)) (aD (aP ?_)) ?_)
 rotate_left
 ·rintro o ⟨F, inr⟩ X (⟨rfl, q0, hX, i, hik, he, _⟩ | ⟨rfl, hX, hne, p6⟩)
  ·simp only at q0
   subst q0
   obtain rfl : i = l.length := by omega
   try simp only [↓sU,sD,rE,↓reduceIte,rA]
   refine cF ?_
   simp only [↓sU,sD,rE,↓reduceIte,rA]
   refine bD ?_
   simp only [↓sU,sD,rE,↓reduceIte,rA]
   exact ⟨hX, true, rfl, fun _ => ⟨hlm, he⟩, fun _ => rfl⟩
  ·simp only at p6
   simp only [↓sU,sD,rE,↓reduceIte,rA, p6]
   exact ⟨hX, false, rfl, fun h => (by cases h), fun h => absurd h hne⟩
 simp only [↓sU,sD,rE,↓reduceIte,rA, hl.len, Aj]
 refine aU (cI (aNj S av bv (.fn 151 [] [.ptr pa 0, .ptr pb 0]) a b l m) ?_ l.length _ _ ⟨rfl, Same.refl _, 0, by omega, fun j hj => absurd hj (Bv j), by simp only [↓sU,sD,rE,↓reduceIte,rA], by simp only [↓sU,sD,rE,↓reduceIte,rA], by simp only [↓sU,sD,rE,↓reduceIte,rA], by simp only [↓sU,sD,rE,↓reduceIte,rA], by simp only [↓sU,sD,rE,↓reduceIte,rA]; try rfl⟩)
 rintro k ⟨F, inr⟩ X ⟨q0, hX, i, hik, he, p1, p2, p15, p16, p17⟩
 simp only at q0 p1 p2 p15 p16 p17
 subst q0
 refine cF ?_
 simp only [↓sU,sD,rE,↓reduceIte,rA, p16, p17]
 by_cases hlt : i < l.length
 rotate_left
 ·refine aD (aT (by simp only [↓sU,sD,rE,↓reduceIte,rA, Aa (show ¬ (i : Int) < ((l.length : Nat) : Int) by omega)]) (cC ?_))
  simp only [↓sU,sD,rE,↓reduceIte,rA]
  obtain rfl : k = 0 := by omega
  exact .inl ⟨rfl, hX, i, hik, he, by refine ⟨?_,?_,?_,?_,?_⟩<;>simp only [↓sU,sD,rE,↓reduceIte,rA,p1,p2,p15,p16,p17]⟩
 refine aD (aY (by simp only [↓sU,sD,rE,↓reduceIte,rA, Ad (show (i : Int) < ((l.length : Nat) : Int) by omega)]) (aN ?_))
 try simp only [↓sU,sD,rE,↓reduceIte,rA]
 have hltm : i < m.length := by omega
 have ia := (hl.same hX).iaddr hlt
 have la := (hl.same hX).ld hlt
 have ib := (hm.same hX).iaddr hltm
 have lb := (hm.same hX).ld hltm
 have w1 : IntKind.i64.wrap ((i : Int) + 1) = ((i + 1 : Nat) : Int) := by rw [wrap_i64 (by omega) (by omega)]; omega
 refine aD (aU (aD (aP ?_)))
 simp only [↓sU,sD,rE,↓reduceIte,rA, p15, p17, aG, ia, la]
 refine cF ?_
 simp only [↓sU,sD,rE,↓reduceIte,rA, p1, aG, ib, lb]
 refine cF ?_
 simp only [↓sU,sD,rE,↓reduceIte,rA, p2]
 refine bJ ?_
 simp only [↓sU,sD,rE,↓reduceIte,rA, p2]
 refine aW (aC5 H ((hX.2 _ lpa).trans ga) ((hX.2 _ lpb).trans gb) ha hb (hx i hlt) (hy i hltm)) ?_
 rintro _ Y ⟨rfl, hY⟩
 have sY := hX.trans hY
 simp only [↓sU,sD,rE,↓reduceIte,rA, gS]
 by_cases hc : l.getD i 0 - a = m.getD i 0 - b
 ·refine aT (by simp only [↓sU,sD,rE,↓reduceIte,rA, Ad hc, De]) (aN ?_)
  try simp only [↓sU,sD,rE,↓reduceIte,rA]
  refine aP ?_
  simp only [↓sU,sD,rE,↓reduceIte,rA, p17, w1]
  exact ⟨k - 1, by omega, rfl, sY, i + 1, by omega, fun j hj => by
   by_cases e : j = i
   ·rw [e]; exact hc
   ·exact he j (by omega), by refine ⟨?_,?_,?_,?_,?_⟩<;>simp only [↓sU,sD,rE,↓reduceIte,rA,p1,p2,p15,p16]⟩
 ·refine aY (by simp only [↓sU,sD,rE,↓reduceIte,rA, Aa hc, Ea]) ?_
  refine cF ?_
  simp only [↓sU,sD,rE,↓reduceIte,rA]
  refine bD ?_
  simp only [↓sU,sD,rE,↓reduceIte,rA]
  exact .inr ⟨sY, fun h => hc (h.2 i hlt)⟩
def aGu (a b : Int) (x y : cM) : Prop := x.kind = y.kind ∧ x.player = y.player ∧ x.pay = y.pay ∧ x.weights = y.weights ∧ shP a b x.next y.next
def aDh (g : bF) (T : List cE) (a b : Nat) : Prop := eG T a = eG T b ∧ ∀ t, t < eG T a → aGu (a : Int) (b : Int) (nodeAt g (a + t)) (nodeAt g (b + t))
def aMT (S2 : St) (wb pa pb : Nat) (g : bF) (T : List cE) (a b : Nat) (k : Nat) (A : bT) (X : St) : Prop := A.inr = false ∧ Same S2 X ∧ ∃ t, t + k = eG T a ∧ (∀ j, j < t → aGu (a : Int) (b : Int) (nodeAt g (a + j)) (nodeAt g (b + j))) ∧ aC 0 A.F = .ptr wb 0 ∧ aC 4 A.F = .ptr pa 0 ∧ aC 5 A.F = .ptr pb 0 ∧ aC 7 A.F = .fn 151 [] [.ptr pa 0, .ptr pb 0] ∧ aC 33 A.F = .int .i64 ((eG T a : Nat) : Int) ∧ aC 34 A.F = .int .i64 (t : Int)
theorem aD7 {S : St} {wb plb szb a b : Nat} {nv iv pv : AV} {g : bF} {T : List cE} (H : Has fns) (G : dT g) (hT : fK g = some T) (hTl : T.length = g.nodes.length) (hB : iE S wb plb szb pv nv iv g (kC g) (szL T g.nodes.length)) (hn : aM 6 cL S nv g.nodes) (ha : a < g.nodes.length) (hb : b < g.nodes.length) (hwl : ∀ i, i < g.nodes.length → (nodeAt g i).weights.length ≤ 1000) :
  iM fns (.fn 114 [] []) [.ptr wb 0, .int .i64 (a : Int), .int .i64 (b : Int)] S fun r S' => Same S S' ∧ ∃ t, r = .bool t ∧ (t = true ↔ aDh g T a b) := by
 have hN2 := G.n2
 obtain ⟨za, za1, za2⟩ := aAs hT hTl (by omega) ha
 obtain ⟨zb, zb1, zb2⟩ := aAs hT hTl (by omega) hb
 have snv := aM.self hn
 refine cV H.f114 (by simp) ?_
 simp only [↓sU,sD,rE,↓reduceIte,rA]
 refine cF ?_
 refine eQ (cs := [.int .i64 (a : Int)]) rfl ?_
 intro S1 s1 n1 g1
 refine eQ (cs := [.int .i64 (b : Int)]) rfl ?_
 intro S2 s2 n2 g2
 have g1' := (s2.2 _ (show S.nx < S1.nx by omega)).trans g1
 have s12 := s1.trans s2
 simp only [↓sU,sD,rE,↓reduceIte,rA]
 have hW2 := hB.w.same s12
 have gz2 := (s12.2 _ hB.bz).trans hB.gz
 have hia := fV (b := szb) (o := false) ha
 have hla := aBV gz2 (p := a) (by rw [hB.lz]; exact ha)
 have hib := fV (b := szb) (o := false) hb
 have hlb := aBV gz2 (p := b) (by rw [hB.lz]; exact hb)
 rw [za] at hla
 rw [zb] at hlb
 have l4 := cS (p := 0) g1' rfl
 have l5 := cS (p := 0) g2 rfl
 refine aD (aD (gE ?_))
 simp only [↓sU,sD,rE,↓reduceIte,rA, aS, bH, aR, aA, aO, aB, gI hW2.1, l4, l5, aG, hia, hla, hib, hlb]
 by_cases hsz : eG T a = eG T b
 rotate_left
 ·refine aY (by simp only [↓sU,sD,rE,↓reduceIte,rA, Ad (show ((eG T a : Nat) : Int) ≠ ((eG T b : Nat) : Int) by omega)]) ?_
  refine cF ?_
  simp only [↓sU,sD,rE,↓reduceIte,rA]
  refine bD ?_
  simp only [↓sU,sD,rE,↓reduceIte,rA]
  exact ⟨s12.trans (Same.nx _ _), false, rfl, fun h => (by cases h), fun h => absurd h.1 hsz⟩
 refine aT (by simp only [↓sU,sD,rE,↓reduceIte,rA, Aa (show ¬ ((eG T a : Nat) : Int) ≠ ((eG T b : Nat) : Int) by omega)]) (aN ?_)
 try simp only [↓sU,sD,rE,↓reduceIte,rA]
 have hmk : ∀ (F : Fr) (h : Ev.T AB), aC 4 F = .ptr S.nx 0 → aC 5 F = .ptr S1.nx 0 → gR (.mkFunc 151 [] [.t 4, .t 5]) F h = some (.fn 151 [] [.ptr S.nx 0, .ptr S1.nx 0]) := fun F h h1 h2 => by
  show some (AV.fn _ (cW [] F) (cW [.t 4, .t 5] F)) = _
  simp only [cW, iJ, h1, h2]
 refine cF ?_
 simp only [↓sU,sD,rE,↓reduceIte,rA, hmk]
 refine aD (bN (Q := fun o A' X => (o = .normal ∧ aMT S2 wb S.nx S1.nx g T a b 0 A' X) ∨ (o = .ret ∧ Same S2 X ∧ ¬ aDh g T a b ∧ aC 6 A'.F = .bool false)) (aD (gE ?_)) ?_)
 rotate_left
 ·rintro o ⟨F, inr⟩ X (⟨rfl, q0, hX, t, htk, he, _⟩ | ⟨rfl, hX, hne, p6⟩)
  ·simp only at q0
   subst q0
   obtain rfl : t = eG T a := by omega
   try simp only [↓sU,sD,rE,↓reduceIte,rA]
   refine cF ?_
   simp only [↓sU,sD,rE,↓reduceIte,rA]
   refine bD ?_
   simp only [↓sU,sD,rE,↓reduceIte,rA]
   exact ⟨s12.trans hX, true, rfl, fun _ => ⟨hsz, he⟩, fun _ => rfl⟩
  ·simp only at p6
   simp only [↓sU,sD,rE,↓reduceIte,rA, p6]
   exact ⟨s12.trans hX, false, rfl, fun h => (by cases h), fun h => absurd h hne⟩
 simp only [↓sU,sD,rE,↓reduceIte,rA, aS, bH, aR, aA, aO, aB, gI hW2.1, l4, l5, aG, hia, hla]
 refine aU (cI (aMT S2 wb S.nx S1.nx g T a b) ?_ (eG T a) _ _ ⟨rfl, ?_, 0, by omega, fun j hj => absurd hj (Bv j), by simp only [↓sU,sD,rE,↓reduceIte,rA], by simp only [↓sU,sD,rE,↓reduceIte,rA], by simp only [↓sU,sD,rE,↓reduceIte,rA], by simp only [↓sU,sD,rE,↓reduceIte,rA]; try rfl, by simp only [↓sU,sD,rE,↓reduceIte,rA]; try rfl, by simp only [↓sU,sD,rE,↓reduceIte,rA]; try rfl⟩)
 rotate_left
 ·first | exact Same.nx _ _ | exact (Same.nx _ _).trans (Same.nx _ _) | skip
 clear l4 l5 hla hlb hia hib gz2 hW2 hmk
 rintro k ⟨F, inr⟩ X ⟨q0, hX, t, htk, he, p0, p4, p5, p7, p33, p34⟩
 simp only at q0 p0 p4 p5 p7 p33 p34
 subst q0
 refine cF ?_
 simp only [↓sU,sD,rE,↓reduceIte,rA, p33, p34]
 by_cases hlt : t < eG T a
 rotate_left
 ·refine aD (aT (by simp only [↓sU,sD,rE,↓reduceIte,rA, Aa (show ¬ (t : Int) < ((eG T a : Nat) : Int) by omega)]) (cC ?_))
  simp only [↓sU,sD,rE,↓reduceIte,rA]
  obtain rfl : k = 0 := by omega
  exact .inl ⟨rfl, hX, t, htk, he, by refine ⟨?_,?_,?_,?_,?_,?_⟩<;>simp only [↓sU,sD,rE,↓reduceIte,rA,p0,p4,p5,p7,p33,p34]⟩
 refine aD (aY (by simp only [↓sU,sD,rE,↓reduceIte,rA, Ad (show (t : Int) < ((eG T a : Nat) : Int) by omega)]) (aN ?_))
 try simp only [↓sU,sD,rE,↓reduceIte,rA]
 have hat : a + t < g.nodes.length := by omega
 have hbt : b + t < g.nodes.length := by omega
 have w1 : IntKind.i64.wrap ((t : Int) + 1) = ((t + 1 : Nat) : Int) := by rw [wrap_i64 (by omega) (by omega)]; omega
 have wa : IntKind.i64.wrap ((a : Int) + (t : Int)) = ((a + t : Nat) : Int) := by rw [wrap_i64 (by omega) (by omega)]; omega
 have wb' : IntKind.i64.wrap ((b : Int) + (t : Int)) = ((b + t : Nat) : Int) := by rw [wrap_i64 (by omega) (by omega)]; omega
 have sX := s12.trans hX
 have hnX := aM.same (E := cL) cB hn sX
 have hWX := hB.w.same sX
 have g4 := (hX.2 _ (show S.nx < S2.nx by omega)).trans g1'
 have g5 := (hX.2 _ (show S1.nx < S2.nx by omega)).trans g2
 have l4 := cS (p := 0) g4 rfl
 have l5 := cS (p := 0) g5 rfl
 have lwX : wb < X.nx := Ae hB.w.2 sX.1
 have m2 := hX.1
 obtain ⟨_, bx, qx, hiax, hbx, _, ⟨xa, xw, xp, rfl, hxa, hxw, hxp⟩, hldx, _⟩ := aM.at hnX (by decide) (dI hat)
 obtain ⟨_, by', qy, hiay, hby, _, ⟨ya, yw, yp, rfl, hya, hyw, hyp⟩, hldy, _⟩ := aM.at hnX (by decide) (dI hbt)
 have sx := pV (x0 := (nodeAt g (a + t)).kind) (x1 := (nodeAt g (a + t)).player) (x2 := (nodeAt g (a + t)).info) (k := .i64) (bO.self hxa) (bO.self hxw) (bO.self hxp)
 have sy := pV (x0 := (nodeAt g (b + t)).kind) (x1 := (nodeAt g (b + t)).player) (x2 := (nodeAt g (b + t)).info) (k := .i64) (bO.self hya) (bO.self hyw) (bO.self hyp)
 have l4X : S.nx < X.nx := by omega
 have l5X : S1.nx < X.nx := by omega
 refine aD (aU (aD (aP ?_)))
 simp only [↓sU,sD,rE,↓reduceIte,rA, p34]
 refine aD (wJ (fun _ => False) ?_)
 simp only [↓sU,sD,rE,↓reduceIte,rA, p0, p4, p5, Ax, aS, bH, aR, aA, aO, aB, eY hWX.1, lwX, snv, l4, l5, l4X, l5X, dO, wa, wb', aG, hiax, hldx, sx, hbx, hiay, hldy, sy, hby, tA]
 refine aHY (n := 6) rfl rfl rfl (by simp only [↓sU,sD,rE,↓reduceIte,rA]) (by simp only [↓sU,sD,rE,↓reduceIte,rA]) (by simp only [↓sU,sD,rE,↓reduceIte,rA]; exact bK _) (by simp only [↓sU,sD,rE,↓reduceIte,rA]; exact bK _) rfl rfl rfl (by omega) (by omega) (by omega) ?_
 intro X1 hX1n hgx hgy hX1
 rw [cA]
 have hX1n : X1.nx = X.nx + 24 := hX1n
 have sX1 : Same X X1 := ⟨by omega, fun c hc => hX1 c (by omega) (by omega)⟩
 show kH fns _ _ X1 _
 have hxa1 := hxa.same sX1
 have hya1 := hya.same sX1
 have hxw1 := hxw.same sX1
 have hyw1 := hyw.same sX1
 have hxp1 := hxp.same sX1
 have hyp1 := hyp.same sX1
 have g41 := (sX1.2 _ l4X).trans g4
 have g51 := (sX1.2 _ l5X).trans g5
 refine aD (bN (Q := fun o A' Y => o = .normal ∧ A'.inr = false ∧ Same X1 Y ∧ aC 0 A'.F = .ptr wb 0 ∧ aC 4 A'.F = .ptr S.nx 0 ∧ aC 5 A'.F = .ptr S1.nx 0 ∧ aC 7 A'.F = .fn 151 [] [.ptr S.nx 0, .ptr S1.nx 0] ∧ aC 33 A'.F = .int .i64 ((eG T a : Nat) : Int) ∧ aC 34 A'.F = .int .i64 (t : Int) ∧ ∃ u, aC 93 A'.F = .bool u ∧ (u = true ↔ ¬ aGu (a : Int) (b : Int) (nodeAt g (a + t)) (nodeAt g (b + t)))) (aP ?_) ?_)
 rotate_left
 ·clear p0 p4 p5 p7 p33 p34
  rintro o ⟨F, inr⟩ Y ⟨rfl, q0, hY, p0, p4, p5, p7, p33, p34, u, p93, hu⟩
  simp only at q0 p0 p4 p5 p7 p33 p34 p93
  subst q0
  have sY := (hX.trans sX1).trans hY
  try simp only [↓sU,sD,rE,↓reduceIte,rA]
  cases u with
  | true =>
   refine aY (by simp only [↓sU,sD,rE,↓reduceIte,rA, p93]) ?_
   refine cF ?_
   simp only [↓sU,sD,rE,↓reduceIte,rA]
   refine bD ?_
   simp only [↓sU,sD,rE,↓reduceIte,rA]
   exact .inr ⟨sY, fun h => hu.1 rfl (h.2 t hlt)⟩
  | false =>
   have hlk : aGu (a : Int) (b : Int) (nodeAt g (a + t)) (nodeAt g (b + t)) := Classical.byContradiction fun h => by have := hu.2 h; cases this
   refine aT (by simp only [↓sU,sD,rE,↓reduceIte,rA, p93]) (aN ?_)
   try simp only [↓sU,sD,rE,↓reduceIte,rA]
   refine aP ?_
   simp only [↓sU,sD,rE,↓reduceIte,rA, p34, w1]
   exact ⟨k - 1, by omega, rfl, sY, t + 1, by omega, fun j hj => by
    by_cases e : j = t
    ·rw [e]; exact hlk
    ·exact he j (by omega), by refine ⟨?_,?_,?_,?_,?_,?_⟩<;>simp only [↓sU,sD,rE,↓reduceIte,rA,p0,p4,p5,p7,p33]⟩
 by_cases c1 : (nodeAt g (a + t)).kind = (nodeAt g (b + t)).kind
 rotate_left
 ·simp only [↓sU,sD,rE,↓reduceIte,rA, p0, p4, p5, p7, p33, p34, aA, aB, fD hgx, fD hgy, Ad (show (nodeAt g (a + t)).kind ≠ (nodeAt g (b + t)).kind from c1)]
  exact ⟨Same.refl _, true, rfl, fun _ h => c1 h.1, fun _ => rfl⟩
 have c1' := Aa (show ¬ (nodeAt g (a + t)).kind ≠ (nodeAt g (b + t)).kind from fun h => h c1)
 by_cases c2 : (nodeAt g (a + t)).player = (nodeAt g (b + t)).player
 rotate_left
 ·simp only [↓sU,sD,rE,↓reduceIte,rA, p0, p4, p5, p7, p33, p34, aA, aB, fD hgx, fD hgy, eY hgx, eY hgy, c1', Ad (show (nodeAt g (a + t)).player ≠ (nodeAt g (b + t)).player from c2)]
  exact ⟨Same.refl _, true, rfl, fun _ h => c2 h.2.1, fun _ => rfl⟩
 have c2' := Aa (show ¬ (nodeAt g (a + t)).player ≠ (nodeAt g (b + t)).player from fun h => h c2)
 simp only [↓sU,sD,rE,↓reduceIte,rA, p0, p4, p5, p7, p33, p34, aA, aB, fD hgx, fD hgy, eY hgx, eY hgy, gI hgx, gI hgy, c1', c2']
 refine bJ ?_
 simp only [↓sU,sD,rE,↓reduceIte,rA]
 refine aW (uM H hxp1 hyp1 (by have := G.pay _ hat; omega)) ?_
 rintro _ Y ⟨rfl, hY⟩
 have lx1 : X.nx + 20 < X1.nx := by omega
 have ly1 : X.nx + 21 < X1.nx := by omega
 have hgxY := (hY.2 _ lx1).trans hgx
 have hgyY := (hY.2 _ ly1).trans hgy
 by_cases c3 : (nodeAt g (a + t)).pay = (nodeAt g (b + t)).pay
 rotate_left
 ·rw [Aa c3]
  simp only [↓sU,sD,rE,↓reduceIte,rA, gS, Ea, aA, aB, p0, p4, p5, p7, p33, p34]
  exact ⟨hY, true, rfl, fun _ h => c3 h.2.2.1, fun _ => rfl⟩
 rw [Ad c3]
 simp only [↓sU,sD,rE,↓reduceIte,rA, gS, De, aA, aB, fL hgxY, fL hgyY, p0, p4, p5, p7, p33, p34]
 refine bJ ?_
 simp only [↓sU,sD,rE,↓reduceIte,rA]
 refine aW (uM H (hxw1.same hY) (hyw1.same hY) (by have := hwl _ hat; omega)) ?_
 rintro _ Y2 ⟨rfl, hY2⟩
 have hgx2 := (hY2.2 _ (Ae lx1 hY.1)).trans hgxY
 have hgy2 := (hY2.2 _ (Ae ly1 hY.1)).trans hgyY
 have sY2 := hY.trans hY2
 by_cases c4 : (nodeAt g (a + t)).weights = (nodeAt g (b + t)).weights
 rotate_left
 ·rw [Aa c4]
  simp only [↓sU,sD,rE,↓reduceIte,rA, gS, Ea, aA, aB, p0, p4, p5, p7, p33, p34]
  exact ⟨sY2, true, rfl, fun _ h => c4 h.2.2.2.1, fun _ => rfl⟩
 rw [Ad c4]
 simp only [↓sU,sD,rE,↓reduceIte,rA, gS, De, aA, aB, eV hgx2, eV hgy2, p0, p4, p5, p7, p33, p34]
 refine bJ ?_
 simp only [↓sU,sD,rE,↓reduceIte,rA, p7]
 have kb := fun i (hi : i < g.nodes.length) j (hj : j < (nodeAt g i).next.length) => G.kids i hi j hj
 have s12' := sX1.trans sY2
 refine aW (aDX H (hxa.same s12') (hya.same s12') ((s12'.2 _ l4X).trans g4) ((s12'.2 _ l5X).trans g5) (Ae l4X s12'.1) (Ae l5X s12'.1) (by omega) (by omega) (fun j hj => by have := kb _ hat j hj; omega) (fun j hj => by have := kb _ hbt j hj; omega) (by have := G.nxt _ hat; omega)) ?_
 rintro _ Y3 ⟨hY3, u, rfl, hu⟩
 simp only [↓sU,sD,rE,↓reduceIte,rA, gS, p0, p4, p5, p7, p33, p34]
 refine ⟨sY2.trans hY3, !u, rfl, ?_⟩
 cases u with
 | true => exact ⟨fun h => (by cases h), fun h => absurd ⟨c1, c2, c3, c4, hu.1 rfl⟩ h⟩
 | false => exact ⟨fun _ h => (by have := hu.2 h.2.2.2.2; cases this), fun _ => rfl⟩
theorem bO.ptr {k : IntKind} {S : St} {v : AV} {l : List Int} {i : Nat} (h : bO k S v l) (hi : i < l.length) : ∃ b off, eT (.slice 1) v i = some (.ptr b off) ∧ b < S.nx ∧ fH (.ptr b off) false 1 S.h = some (.int k (l.getD i 0)) := by
 have ia := h.iaddr hi
 have ld := h.ld hi
 rcases h with ⟨h0, _⟩ | ⟨b, off, cap, o, cs, rfl, _, hb, _⟩
 ·rw [h0] at hi; simp at hi
 ·simp only [zZ] at ia ld
  exact ⟨b, _, ia, hb, ld⟩
def aFF (g : bF) (T : List cE) (i k j : Nat) : Prop := (nodeAt g i).weights.getD k 0 = (nodeAt g i).weights.getD j 0 ∧ aDh g T ((nodeAt g i).next.getD k 0).toNat ((nodeAt g i).next.getD j 0).toNat ∧ lG g (xI g.nodes.length ((nodeAt g i).next.getD k 0).toNat ((nodeAt g i).next.getD j 0).toNat (eG T ((nodeAt g i).next.getD k 0).toNat))
open Classical in
noncomputable def jB (g : bF) (T : List cE) (i k : Nat) : Nat → List (List Int)
 | 0 => []
 | j + 1 => jB g T i k j ++ if k < j ∧ aFF g T i k j then [xI g.nodes.length ((nodeAt g i).next.getD k 0).toNat ((nodeAt g i).next.getD j 0).toNat (eG T ((nodeAt g i).next.getD k 0).toNat)] else []
noncomputable def lJ (g : bF) (T : List cE) (i : Nat) : Nat → List (List Int)
 | 0 => []
 | k + 1 => lJ g T i k ++ jB g T i k (nodeAt g i).next.length
noncomputable def iH (g : bF) (T : List cE) : Nat → List (List Int)
 | 0 => []
 | i + 1 => iH g T i ++ if (nodeAt g i).kind = 1 then lJ g T i (nodeAt g i).next.length else []
open Classical in
theorem aCf {g : bF} {T : List cE} {i k : Nat} : ∀ {j : Nat}, j ≤ k + 1 → jB g T i k j = []
 | 0, _ => rfl
 | j + 1, h => by
  show jB g T i k j ++ (if _ then _ else []) = []
  rw [aCf (by omega), if_neg (fun e => by have := e.1; omega)]
  rfl
theorem aIE {N a b n j : Nat} (hab : a + n ≤ b) (hbn : b + n ≤ N) (hj : j < N) : swF a b n j < N := by
 unfold swF
 split
 ·omega
 ·split <;> omega
theorem aGk {g : bF} {a b n : Nat} (hab : a + n ≤ b) (hbn : b + n ≤ g.nodes.length) : rN g (xI g.nodes.length a b n) :=
 aGt (by unfold xI; rw [Av, Cy]) fun i hi => by
  unfold xI
  rw [mZ hi]
  have := aIE hab hbn hi
  omega
theorem aJu {N a b n j : Nat} (hab : a + n ≤ b) (_hj : j < N) : swF a b n (swF a b n j) = j := by
 unfold swF
 by_cases e1 : a ≤ j ∧ j < a + n
 ·rw [if_pos e1, if_neg (show ¬ (a ≤ j - a + b ∧ j - a + b < a + n) by omega), if_pos (show b ≤ j - a + b ∧ j - a + b < b + n by omega)]
  omega
 ·rw [if_neg e1]
  by_cases e2 : b ≤ j ∧ j < b + n
  ·rw [if_pos e2, if_pos (show a ≤ j - b + a ∧ j - b + a < a + n by omega)]
   omega
  ·rw [if_neg e2, if_neg e1, if_neg e2]
theorem aAO {N a b n i : Nat} (hi : i < N) : eK (xI N a b n) i = swF a b n i := by
 unfold eK xI
 rw [mZ hi, Ba]
theorem aID {g : bF} {a b n : Nat} (hab : a + n ≤ b) (hbn : b + n ≤ g.nodes.length) (hA : lG g (xI g.nodes.length a b n)) : fR g (xI g.nodes.length a b n) ∧ aEG g (xI g.nodes.length a b n) := by
 have M := aGk (g := g) hab hbn
 have h2 : aEG g (xI g.nodes.length a b n) := fun i hi => by
  rw [aAO hi, aAO (aIE hab hbn hi)]
  exact aJu hab hi
 refine ⟨⟨M, ?_, hA⟩, h2⟩
 rintro ⟨i, k, hki, hi, he⟩
 rw [M.len] at hi
 have e1 := (M.at hi).1
 have e2 := (M.at (show k < g.nodes.length by omega)).1
 have e3 : eK (xI g.nodes.length a b n) i = eK (xI g.nodes.length a b n) k := by omega
 have := h2 i hi
 rw [e3, h2 k (by omega)] at this
 omega
structure aMc (g : bF) (T : List cE) (i k j : Nat) : Prop where
 ap : ((nodeAt g i).next.getD k 0).toNat + eG T ((nodeAt g i).next.getD k 0).toNat ≤ ((nodeAt g i).next.getD j 0).toNat
 la : ((nodeAt g i).next.getD k 0).toNat < g.nodes.length
 lb : ((nodeAt g i).next.getD j 0).toNat < g.nodes.length
 nb : ((nodeAt g i).next.getD j 0).toNat + eG T ((nodeAt g i).next.getD j 0).toNat ≤ g.nodes.length
 za : (szL T g.nodes.length).getD ((nodeAt g i).next.getD k 0).toNat 0 = ((eG T ((nodeAt g i).next.getD k 0).toNat : Nat) : Int)
theorem aI1 {g : bF} {T : List cE} {i k j : Nat} (G : dT g) (hT : fK g = some T) (hTl : T.length = g.nodes.length) (hi : i < g.nodes.length) (hkj : k < j) (hj : j < (nodeAt g i).next.length) : aMc g T i k j := by
 have hN := G.n2
 obtain ⟨a1, a2⟩ := G.kids i hi k (by omega)
 obtain ⟨b1, b2⟩ := G.kids i hi j hj
 obtain ⟨_, _, z3⟩ := aAs hT hTl (by omega) (show ((nodeAt g i).next.getD j 0).toNat < g.nodes.length by omega)
 exact ⟨aFP hT hTl hi hkj hj (by omega), by omega, by omega, z3, (aAs hT hTl (by omega) (show ((nodeAt g i).next.getD k 0).toNat < g.nodes.length by omega)).1⟩
theorem aH9 {g : bF} {T : List cE} (G : dT g) (hT : fK g = some T) (hTl : T.length = g.nodes.length) : ∀ m ∈ iH g T g.nodes.length, fR g m ∧ aEG g m := by
 have hJ : ∀ i k, i < g.nodes.length → ∀ j, j ≤ (nodeAt g i).next.length → ∀ m ∈ jB g T i k j, fR g m ∧ aEG g m := by
  intro i k hi j
  induction j with
  | zero => intro _ m hm; cases hm
  | succ j ih =>
   intro hj m hm
   rcases Bh.1 hm with h | h
   ·exact ih (by omega) m h
   ·split at h
    ·rename_i hc
     obtain ⟨hkj, _, hal, hA⟩ := hc
     have P := aI1 G hT hTl hi hkj (show j < (nodeAt g i).next.length by omega)
     rw [Cf.1 h]
     have := P.nb
     have := hal.1
     exact aID P.ap (by omega) hA
    ·cases h
 have hK : ∀ i, i < g.nodes.length → ∀ k, ∀ m ∈ lJ g T i k, fR g m ∧ aEG g m := by
  intro i hi k
  induction k with
  | zero => intro m hm; cases hm
  | succ k ih =>
   intro m hm
   rcases Bh.1 hm with h | h
   ·exact ih m h
   ·exact hJ i k hi _ (Af _) m h
 have hI : ∀ i, i ≤ g.nodes.length → ∀ m ∈ iH g T i, fR g m ∧ aEG g m := by
  intro i
  induction i with
  | zero => intro _ m hm; cases hm
  | succ i ih =>
   intro hi m hm
   rcases Bh.1 hm with h | h
   ·exact ih (by omega) m h
   ·split at h
    ·exact hK i (by omega) _ m h
    ·cases h
 exact hI _ (Af _)
structure SwH (S2 X : St) (wb : Nat) (nv : AV) (g : bF) (pv : AV) (cs : List AV) (L : List (List Int)) (i : Nat) (F : Fr) : Prop where
 same : Same S2 X
 gr : gN 1 S2 X pv L.length cs
 rw : zR S2 X pv cs L
 t4 : aC 4 F = .ptr wb 0
 t6 : aC 6 F = pv
 t24 : aC 24 F = nv
 t25 : aC 25 F = .int .i64 ((g.nodes.length : Nat) : Int)
 t26 : aC 26 F = .int .i64 (i : Int)
def aK5 (S2 : St) (wb : Nat) (nv : AV) (g : bF) (T : List cE) (k : Nat) (A : bT) (X : St) : Prop := A.inr = false ∧ ∃ (i : Nat) (pv : AV) (cs : List AV), i + k = g.nodes.length ∧ SwH S2 X wb nv g pv cs (iH g T i) i A.F
def aKT (S2 : St) (wb nb : Nat) (nv xa : AV) (g : bF) (T : List cE) (cells : List AV) (i : Nat) (k : Nat) (A : bT) (X : St) : Prop := A.inr = false ∧ nb < X.nx ∧ X.h.get nb = some (.cells cells false 0) ∧ ∃ (q : Nat) (pv : AV) (cs : List AV), q + k = (nodeAt g i).next.length ∧ SwH S2 X wb nv g pv cs (iH g T i ++ lJ g T i q) i A.F ∧ aC 8 A.F = .ptr nb 0 ∧ aC 34 A.F = xa ∧ aC 35 A.F = .int .i64 (((nodeAt g i).next.length : Nat) : Int) ∧ aC 36 A.F = .int .i64 (q : Int)
def aH1 (S2 : St) (wb nb : Nat) (nv xa : AV) (g : bF) (T : List cE) (cells : List AV) (i q : Nat) (k : Nat) (A : bT) (X : St) : Prop := A.inr = false ∧ nb < X.nx ∧ X.h.get nb = some (.cells cells false 0) ∧ ∃ (j : Nat) (pv : AV) (cs : List AV), j + k = (nodeAt g i).next.length ∧ q < j ∧ SwH S2 X wb nv g pv cs (iH g T i ++ (lJ g T i q ++ jB g T i q j)) i A.F ∧ aC 8 A.F = .ptr nb 0 ∧ aC 34 A.F = xa ∧ aC 35 A.F = .int .i64 (((nodeAt g i).next.length : Nat) : Int) ∧ aC 36 A.F = .int .i64 (q : Int) ∧ aC 9 A.F = .int .i64 (q : Int) ∧ aC 10 A.F = .int .i64 ((nodeAt g i).next.getD q 0) ∧ aC 11 A.F = .int .i64 (j : Int)
theorem SwH.step {S2 X Y : St} {wb : Nat} {nv pv : AV} {g : bF} {cs : List AV} {L : List (List Int)} {i : Nat} {F F' : Fr} (h : SwH S2 X wb nv g pv cs L i F) (hs : Same X Y) (h4 : aC 4 F' = aC 4 F) (h6 : aC 6 F' = aC 6 F) (h24 : aC 24 F' = aC 24 F) (h25 : aC 25 F' = aC 25 F) (h26 : aC 26 F' = aC 26 F) : SwH S2 Y wb nv g pv cs L i F' :=
 ⟨h.same.trans hs, h.gr.step hs, ⟨h.rw.1, fun j hj => by
  obtain ⟨r, h1, h2, h3⟩ := h.rw.2 j hj
  exact ⟨r, h1, h2.same hs, h3⟩⟩, h4.trans h.t4, h6.trans h.t6, h24.trans h.t24, h25.trans h.t25, h26.trans h.t26⟩
open Classical in
theorem aEX {g : bF} {T : List cE} {i k j : Nat} (hkj : k < j) (h : aFF g T i k j) : jB g T i k (j + 1) = jB g T i k j ++ [xI g.nodes.length ((nodeAt g i).next.getD k 0).toNat ((nodeAt g i).next.getD j 0).toNat (eG T ((nodeAt g i).next.getD k 0).toNat)] := by
 show jB g T i k j ++ (if _ then _ else []) = _
 rw [if_pos ⟨hkj, h⟩]
open Classical in
theorem aHb {g : bF} {T : List cE} {i k j : Nat} (h : ¬ aFF g T i k j) : jB g T i k (j + 1) = jB g T i k j := by
 show jB g T i k j ++ (if _ then _ else []) = _
 rw [if_neg (fun e => h e.2), Bk]
open Classical in
theorem zB {g : bF} {T : List cE} {i k : Nat} : ∀ {j : Nat}, (jB g T i k j).length ≤ j
 | 0 => Af _
 | j + 1 => by
  have ih := zB (g := g) (T := T) (i := i) (k := k) (j := j)
  show (jB g T i k j ++ (if _ then _ else [])).length ≤ _
  rw [Ah]
  split
  ·rw [Aq]; omega
  ·show _ + 0 ≤ _; omega
theorem yJ {g : bF} {T : List cE} {i : Nat} : ∀ {k : Nat}, (lJ g T i k).length ≤ k * (nodeAt g i).next.length
 | 0 => Ci _
 | k + 1 => by
  have ih := yJ (g := g) (T := T) (i := i) (k := k)
  have := zB (g := g) (T := T) (i := i) (k := k) (j := (nodeAt g i).next.length)
  show (lJ g T i k ++ jB g T i k _).length ≤ _
  rw [Ah, Cg]
  omega
theorem aCK {g : bF} {T : List cE} (G : dT g) : ∀ {i : Nat}, i ≤ g.nodes.length → (iH g T i).length ≤ i * 1000000
 | 0, _ => Ci _
 | i + 1, hi => by
  have ih := aCK (T := T) G (i := i) (by omega)
  have h1 := yJ (g := g) (T := T) (i := i) (k := (nodeAt g i).next.length)
  have h2 : (nodeAt g i).next.length * (nodeAt g i).next.length ≤ 1000 * 1000 := Dl (G.nxt i (by omega)) (G.nxt i (by omega))
  have e : (if (nodeAt g i).kind = 1 then lJ g T i (nodeAt g i).next.length else []).length ≤ 1000 * 1000 := by
   split
   ·exact Al h1 h2
   ·exact Ci _
  show (iH g T i ++ (if _ then _ else [])).length ≤ _
  rw [Ah]
  clear h1 h2 hi
  omega
theorem aEm {ps : Int} {ni : Nat} {x : cM} (h : iG ps ni x = 0) : x.weights.length ≤ 1000 := by
 unfold iG at h
 split at h
 ·split at h
  ·cases h
  ·rename_i hb
   unfold pO at hb
   omega
 ·split at h
  ·split at h
   ·cases h
   ·rename_i hb
    unfold tN at hb
    omega
  ·split at h
   ·split at h
    ·cases h
    ·rename_i hb
     unfold qV at hb
     omega
   ·cases h
theorem aBC {g : bF} (h : dF g = 0) {i : Nat} (hi : i < g.nodes.length) : iG g.players g.infos.length (nodeAt g i) = 0 := by
 unfold dF at h
 split at h
 ·cases h
 split at h
 ·rename_i h1; exact absurd h h1
 rename_i hN
 exact jM (Es.1 hN) _ (Bx (dI hi))
theorem aFE {S : St} {nv iv : AV} {g : bF} (H : Has fns) (hn : aM 6 cL S nv g.nodes) (hi : aM 2 dB S iv g.infos) (hln : g.nodes.length ≤ 100000) :
  iM fns (.fn 63 [] []) [.agg [.int .i64 g.players, nv, iv]] S fun r S' => Same S S' ∧ ∃ v, r = .tup [v, .int .i64 (dF g)] ∧ (dF g ≠ 0 → v = .nilsl) ∧ (dF g = 0 → ∃ T, fK g = some T ∧ T.length = g.nodes.length ∧ aM 1 SlE S' v (iH g T g.nodes.length) ∧ ∀ X' : St, S'.nx ≤ X'.nx → (∀ c, c < S'.nx → S.nx ≤ c → X'.h.get c = S'.h.get c) → aM 1 SlE X' v (iH g T g.nodes.length)) := by
 have snv := aM.self hn
 refine cV H.f63 (by simp) ?_
 simp only [↓sU,sD,rE,↓reduceIte,rA]
 refine cF ?_
 refine eQ (cs := [.int .i64 g.players, nv, iv]) rfl ?_
 intro S1 s1 n1 g1
 simp only [↓sU,sD,rE,↓reduceIte,rA]
 refine cF ?_
 simp only [↓sU,sD,rE,↓reduceIte,rA, jF g1]
 refine bJ ?_
 simp only [↓sU,sD,rE,↓reduceIte,rA]
 refine aW (aBQ H (aM.same (E := cL) cB hn s1) (aM.same (E := dB) cQ hi s1) hln) ?_
 rintro _ S2 ⟨s2, p, rfl, hlook⟩
 simp only [↓sU,sD,rE,↓reduceIte,rA, vE, vD]
 have s12 := s1.trans s2
 refine jH ?_
 simp only [↓sU,sD,rE,↓reduceIte,rA]
 by_cases h0 : dF g = 0
 rotate_left
 ·refine aY (by simp only [↓sU,sD,rE,↓reduceIte,rA, Ad (show dF g ≠ 0 from h0)]) ?_
  refine cF ?_
  simp only [↓sU,sD,rE,↓reduceIte,rA]
  refine bD ?_
  simp only [↓sU,sD,rE,↓reduceIte,rA]
  exact ⟨s12, .nilsl, rfl, fun _ => rfl, fun h => absurd h h0⟩
 refine aT (by simp only [↓sU,sD,rE,↓reduceIte,rA, Aa (show ¬ dF g ≠ 0 from fun h => h h0)]) (aN ?_)
 try simp only [↓sU,sD,rE,↓reduceIte,rA]
 obtain ⟨wb, plb, szb, pv0, T, rfl, hwb, hT, hTl, hpv, hB⟩ := hlook h0
 have G := jA h0
 have K := aDT h0
 have hN2 := G.n2
 have hn2 := aM.same (E := cL) cB hn s12
 have hi2 := aM.same (E := dB) cQ hi s12
 have g2 := (s2.2 _ (show S.nx < S1.nx by omega)).trans g1
 have hwl : ∀ i, i < g.nodes.length → (nodeAt g i).weights.length ≤ 1000 := fun i hi => aEm (aBC h0 hi)
 refine cF ?_
 simp only [↓sU,sD,rE,↓reduceIte,rA]
 refine jH ?_
 simp only [↓sU,sD,rE,↓reduceIte,rA, aA, aB, kI g2, hn2.len, snv]
 refine bN (Q := fun o A' X => o = .normal ∧ aK5 S2 wb nv g T 0 A' X) (aU (cI (aK5 S2 wb nv g T) ?_ g.nodes.length _ _ ⟨rfl, 0, .nilsl, [], by omega, ⟨Same.refl _, .inl ⟨rfl, rfl, rfl⟩, ⟨rfl, fun j hj => absurd hj (Bv j)⟩, by simp only [↓sU,sD,rE,↓reduceIte,rA], by simp only [↓sU,sD,rE,↓reduceIte,rA]; try rfl, by simp only [↓sU,sD,rE,↓reduceIte,rA]; try rfl, by simp only [↓sU,sD,rE,↓reduceIte,rA]; try rfl, by simp only [↓sU,sD,rE,↓reduceIte,rA]; try rfl⟩⟩)) ?_
 rotate_left
 ·rintro o ⟨F, inr⟩ X ⟨rfl, q0, i, pv, cs, hik, hS⟩
  simp only at q0 hS
  subst q0
  obtain rfl : i = g.nodes.length := by omega
  try simp only [↓sU,sD,rE,↓reduceIte,rA]
  refine cF ?_
  simp only [↓sU,sD,rE,↓reduceIte,rA, hS.t6]
  refine bD ?_
  simp only [↓sU,sD,rE,↓reduceIte,rA]
  refine ⟨s12.trans hS.same, pv, by rw [h0], fun h => absurd h0 h, fun _ => ⟨T, hT, hTl, hS.rw.is hS.gr rfl, fun X' hn' hk' => ?_⟩⟩
  have n12 := s12.1
  have hr' : zR S2 X' pv cs (iH g T g.nodes.length) := ⟨hS.rw.1, fun j hj => by
   obtain ⟨r, h1, h2, h3⟩ := hS.rw.2 j hj
   exact ⟨r, h1, fF h2 hn' fun c hc => hk' c (dV h2 hc) (Al n12 (h3 c hc).1), h3⟩⟩
  exact hr'.is (hS.gr.move hn' fun c hc => hk' c (hS.gr.blk hc).2.1 (Al n12 (hS.gr.blk hc).1)) rfl
 rintro k ⟨F, inr⟩ V ⟨q0, i, pv, cs, hik, hS⟩
 simp only at q0 hS
 subst q0
 refine cF ?_
 simp only [↓sU,sD,rE,↓reduceIte,rA, hS.t25, hS.t26]
 by_cases hlt : i < g.nodes.length
 rotate_left
 ·refine aD (aT (by simp only [↓sU,sD,rE,↓reduceIte,rA, Aa (show ¬ (i : Int) < ((g.nodes.length : Nat) : Int) by omega)]) (cC ?_))
  simp only [↓sU,sD,rE,↓reduceIte,rA]
  obtain rfl : k = 0 := by omega
  exact ⟨rfl, i, pv, cs, hik, hS.step (Same.refl _) (by simp only [↓sU,sD,rE,↓reduceIte,rA]) (by simp only [↓sU,sD,rE,↓reduceIte,rA]) (by simp only [↓sU,sD,rE,↓reduceIte,rA]) (by simp only [↓sU,sD,rE,↓reduceIte,rA]) (by simp only [↓sU,sD,rE,↓reduceIte,rA])⟩
 refine aD (aY (by simp only [↓sU,sD,rE,↓reduceIte,rA, Ad (show (i : Int) < ((g.nodes.length : Nat) : Int) by omega)]) (aN ?_))
 try simp only [↓sU,sD,rE,↓reduceIte,rA]
 obtain ⟨_, bx, qx, hiax, hbx, _, ⟨xa, xw, xp, rfl, hxa, hxw, hxp⟩, hldx, _⟩ := aM.at hn2 (by decide) (dI hlt)
 rw [← qY hS.same hbx] at hldx
 have w0 : IntKind.i64.wrap ((i : Int) + 1) = ((i + 1 : Nat) : Int) := by rw [wrap_i64 (by omega) (by omega)]; omega
 refine aD (aU (aD (aP ?_)))
 simp only [↓aH,aJ,rE,↓reduceIte, rA, hS.t24, hS.t26, aG, hiax, hldx]
 refine dC ?_
 intro W1 v1 k1 h1
 try simp only [↓aH,aJ,rE,↓reduceIte, rA]
 refine dU (b := V.nx) (by simp only [↓aH,aJ,rE,↓reduceIte, rA]) (by simp only [↓aH,aJ,rE,↓reduceIte, rA]; exact bK _) h1 rfl rfl ?_
 intro Y v2 k2 h2
 simp only [↓aH,aJ,rE,↓reduceIte, rA]
 have sVY : Same V Y := v2.same v1 (Af _)
 have lxY : V.nx < Y.nx := by omega
 have nV := hS.same.1
 clear v1 v2 h1 k1
 refine jH ?_
 simp only [↓sU,sD,rE,↓reduceIte,rA, aA, aB, fD h2]
 by_cases hk1 : (nodeAt g i).kind = 1
 rotate_left
 ·refine aY (by simp only [↓sU,sD,rE,↓reduceIte,rA, Ad (show (nodeAt g i).kind ≠ 1 from hk1)]) (cC ?_)
  simp only [↓sU,sD,rE,↓reduceIte,rA]
  refine aP ?_
  simp only [↓sU,sD,rE,↓reduceIte,rA, hS.t26, w0]
  have e : iH g T (i + 1) = iH g T i := by
   show iH g T i ++ (if _ then _ else []) = _
   rw [if_neg hk1, Bk]
  have hS' := hS.step (F' := F) sVY rfl rfl rfl rfl rfl
  refine ⟨k - 1, by omega, rfl, i + 1, pv, cs, by omega, ?_⟩
  rw [e]
  exact ⟨hS'.same, hS'.gr, hS'.rw, by simp only [↓sU,sD,rE,↓reduceIte,rA, hS.t4], by simp only [↓sU,sD,rE,↓reduceIte,rA, hS.t6], by simp only [↓sU,sD,rE,↓reduceIte,rA, hS.t24], by simp only [↓sU,sD,rE,↓reduceIte,rA, hS.t25], by simp only [↓sU,sD,rE,↓reduceIte,rA]⟩
 refine aT (by simp only [↓sU,sD,rE,↓reduceIte,rA, Aa (show ¬ (nodeAt g i).kind ≠ 1 from fun h => h hk1)]) (aN ?_)
 try simp only [↓sU,sD,rE,↓reduceIte,rA]
 have e1 : iH g T (i + 1) = iH g T i ++ lJ g T i (nodeAt g i).next.length := by
  show iH g T i ++ (if _ then _ else []) = _
  rw [if_pos hk1]
 have hwn := G.wts i hlt hk1
 have hnx := G.nxt i hlt
 have sxa := bO.self hxa
 refine cF ?_
 simp only [↓sU,sD,rE,↓reduceIte,rA, aA, aB, eV h2, (hxa.same (hS.same.trans sVY)).len, sxa]
 generalize hcells : [AV.int .i64 (nodeAt g i).kind, .int .i64 (nodeAt g i).player, .int .i64 (nodeAt g i).info, xa, xw, xp] = cells at h2
 refine bN (Q := fun o A' X => o = .normal ∧ aKT S2 wb V.nx nv xa g T cells i 0 A' X) (aU (cI (aKT S2 wb V.nx nv xa g T cells i) ?_ (nodeAt g i).next.length _ _ ⟨rfl, lxY, h2, 0, pv, cs, by omega, ?_, by simp only [↓sU,sD,rE,↓reduceIte,rA], by simp only [↓sU,sD,rE,↓reduceIte,rA], by simp only [↓sU,sD,rE,↓reduceIte,rA]; try rfl, by simp only [↓sU,sD,rE,↓reduceIte,rA]; try rfl⟩)) ?_
 rotate_left
 ·show SwH S2 Y wb nv g pv cs (iH g T i ++ []) i _
  rw [Bk]
  exact hS.step sVY (by simp only [↓sU,sD,rE,↓reduceIte,rA]) (by simp only [↓sU,sD,rE,↓reduceIte,rA]) (by simp only [↓sU,sD,rE,↓reduceIte,rA]) (by simp only [↓sU,sD,rE,↓reduceIte,rA]) (by simp only [↓sU,sD,rE,↓reduceIte,rA])
 ·rintro o ⟨F, inr⟩ X ⟨rfl, q0, _, _, q, pv, cs, hqk, hSX, _⟩
  simp only at q0 hSX
  subst q0
  obtain rfl : q = (nodeAt g i).next.length := by omega
  try simp only [↓sU,sD,rE,↓reduceIte,rA]
  refine aP ?_
  simp only [↓sU,sD,rE,↓reduceIte,rA, hSX.t26, w0]
  refine ⟨k - 1, by omega, rfl, i + 1, pv, cs, by omega, ?_⟩
  rw [e1]
  exact ⟨hSX.same, hSX.gr, hSX.rw, by simp only [↓sU,sD,rE,↓reduceIte,rA, hSX.t4], by simp only [↓sU,sD,rE,↓reduceIte,rA, hSX.t6], by simp only [↓sU,sD,rE,↓reduceIte,rA, hSX.t24], by simp only [↓sU,sD,rE,↓reduceIte,rA, hSX.t25], by simp only [↓sU,sD,rE,↓reduceIte,rA]⟩
 clear hS h2 sVY hldx e1 w0 hik
 rintro k2 ⟨F, inr⟩ X ⟨q0, lxX, hX, q, pv, cs, hqk, hS, t8, t34, t35, t36⟩
 simp only at q0 hS t8 t34 t35 t36
 subst q0
 refine cF ?_
 simp only [↓sU,sD,rE,↓reduceIte,rA, t35, t36]
 by_cases hql : q < (nodeAt g i).next.length
 rotate_left
 ·refine aD (aT (by simp only [↓sU,sD,rE,↓reduceIte,rA, Aa (show ¬ (q : Int) < (((nodeAt g i).next.length : Nat) : Int) by omega)]) (cC ?_))
  simp only [↓sU,sD,rE,↓reduceIte,rA]
  obtain rfl : k2 = 0 := by omega
  exact ⟨rfl, lxX, hX, q, pv, cs, hqk, hS.step (Same.refl _) (by simp only [↓sU,sD,rE,↓reduceIte,rA]) (by simp only [↓sU,sD,rE,↓reduceIte,rA]) (by simp only [↓sU,sD,rE,↓reduceIte,rA]) (by simp only [↓sU,sD,rE,↓reduceIte,rA]) (by simp only [↓sU,sD,rE,↓reduceIte,rA]), by refine ⟨?_,?_,?_,?_⟩<;>simp only [↓sU,sD,rE,↓reduceIte,rA,t8,t34,t35,t36]⟩
 refine aD (aY (by simp only [↓sU,sD,rE,↓reduceIte,rA, Ad (show (q : Int) < (((nodeAt g i).next.length : Nat) : Int) by omega)]) (aN ?_))
 try simp only [↓sU,sD,rE,↓reduceIte,rA]
 have hia := (hxa.same hS.same).iaddr hql
 have hla := (hxa.same hS.same).ld hql
 have w1 : IntKind.i64.wrap ((q : Int) + 1) = ((q + 1 : Nat) : Int) := by rw [wrap_i64 (by omega) (by omega)]; omega
 refine aD (aU (aD (aP ?_)))
 simp only [↓sU,sD,rE,↓reduceIte,rA, t34, t36, aG, hia, hla]
 refine cF ?_
 simp only [↓sU,sD,rE,↓reduceIte,rA, w1]
 have e2 : lJ g T i (q + 1) = lJ g T i q ++ jB g T i q (nodeAt g i).next.length := rfl
 refine bN (Q := fun o A' Z => o = .normal ∧ aH1 S2 wb V.nx nv xa g T cells i q 0 A' Z) (aU (cI (aH1 S2 wb V.nx nv xa g T cells i q) ?_ ((nodeAt g i).next.length - (q + 1)) _ _ ⟨rfl, lxX, hX, q + 1, pv, cs, by omega, by omega, ?_, by simp only [↓sU,sD,rE,↓reduceIte,rA, t8], by simp only [↓sU,sD,rE,↓reduceIte,rA, t34], by simp only [↓sU,sD,rE,↓reduceIte,rA, t35], by simp only [↓sU,sD,rE,↓reduceIte,rA, t36], by simp only [↓sU,sD,rE,↓reduceIte,rA], by simp only [↓sU,sD,rE,↓reduceIte,rA]; try rfl, by simp only [↓sU,sD,rE,↓reduceIte,rA]; try rfl⟩)) ?_
 rotate_left
 ·rw [aCf (Af _), Bk]
  exact hS.step (Same.refl _) (by simp only [↓sU,sD,rE,↓reduceIte,rA]) (by simp only [↓sU,sD,rE,↓reduceIte,rA]) (by simp only [↓sU,sD,rE,↓reduceIte,rA]) (by simp only [↓sU,sD,rE,↓reduceIte,rA]) (by simp only [↓sU,sD,rE,↓reduceIte,rA])
 ·rintro o ⟨F, inr⟩ Z ⟨rfl, q0, lxZ, hZ, j, pv, cs, hjk, _, hSZ, t8, t34, t35, t36, _⟩
  simp only at q0 hSZ t8 t34 t35 t36
  subst q0
  obtain rfl : j = (nodeAt g i).next.length := by omega
  try simp only [↓sU,sD,rE,↓reduceIte,rA]
  refine aP ?_
  simp only [↓sU,sD,rE,↓reduceIte,rA, t36, w1]
  refine ⟨k2 - 1, by omega, rfl, lxZ, hZ, q + 1, pv, cs, by omega, ?_, by refine ⟨?_,?_,?_,?_⟩<;>simp only [↓sU,sD,rE,↓reduceIte,rA,t8,t34,t35]⟩
  rw [e2]
  exact hSZ.step (Same.refl _) (by simp only [↓sU,sD,rE,↓reduceIte,rA]) (by simp only [↓sU,sD,rE,↓reduceIte,rA]) (by simp only [↓sU,sD,rE,↓reduceIte,rA]) (by simp only [↓sU,sD,rE,↓reduceIte,rA]) (by simp only [↓sU,sD,rE,↓reduceIte,rA])
 clear hS hX lxX t8 t34 t35 t36 hia hla hqk e2
 rintro k3 ⟨F, inr⟩ X ⟨q0, lxX, hX, j, pv, cs, hjk, hqj, hS, t8, t34, t35, t36, t9, t10, t11⟩
 simp only at q0 hS t8 t34 t35 t36 t9 t10 t11
 subst q0
 rw [← hcells] at hX
 have hxaX := hxa.same hS.same
 have hxwX := hxw.same hS.same
 refine jH ?_
 simp only [↓sU,sD,rE,↓reduceIte,rA, t8, t11, aA, aB, eV hX, hxaX.len, Aj]
 by_cases hjl : j < (nodeAt g i).next.length
 rotate_left
 ·refine aT (by simp only [↓sU,sD,rE,↓reduceIte,rA, Aa (show ¬ (j : Int) < (((nodeAt g i).next.length : Nat) : Int) by omega)]) (cC ?_)
  simp only [↓sU,sD,rE,↓reduceIte,rA]
  obtain rfl : k3 = 0 := by omega
  exact ⟨rfl, lxX, by rw [← hcells]; exact hX, j, pv, cs, hjk, hqj, hS.step (Same.refl _) (by simp only [↓sU,sD,rE,↓reduceIte,rA]) (by simp only [↓sU,sD,rE,↓reduceIte,rA]) (by simp only [↓sU,sD,rE,↓reduceIte,rA]) (by simp only [↓sU,sD,rE,↓reduceIte,rA]) (by simp only [↓sU,sD,rE,↓reduceIte,rA]), by refine ⟨?_,?_,?_,?_,?_,?_,?_⟩<;>simp only [↓sU,sD,rE,↓reduceIte,rA,t8,t34,t35,t36,t9,t10,t11]⟩
 refine aY (by simp only [↓sU,sD,rE,↓reduceIte,rA, Ad (show (j : Int) < (((nodeAt g i).next.length : Nat) : Int) by omega)]) (aN ?_)
 try simp only [↓sU,sD,rE,↓reduceIte,rA]
 have w2 : IntKind.i64.wrap ((j : Int) + 1) = ((j + 1 : Nat) : Int) := by rw [wrap_i64 (by omega) (by omega)]; omega
 obtain ⟨c1, c2⟩ := G.kids i hlt q hql
 obtain ⟨d1, d2⟩ := G.kids i hlt j hjl
 have P := aI1 G hT hTl hlt hqj hjl
 obtain ⟨pP, pla, plb', pnb, pza⟩ := P
 have hswOk : aFF g T i q j ↔ (nodeAt g i).weights.getD q 0 = (nodeAt g i).weights.getD j 0 ∧ aDh g T ((nodeAt g i).next.getD q 0).toNat ((nodeAt g i).next.getD j 0).toNat ∧ lG g (xI g.nodes.length ((nodeAt g i).next.getD q 0).toNat ((nodeAt g i).next.getD j 0).toNat (eG T ((nodeAt g i).next.getD q 0).toNat)) := Iff.rfl
 have hon := fun h => aEX (g := g) (T := T) (i := i) hqj h
 have hoff := fun h => aHb (g := g) (T := T) (i := i) (k := q) (j := j) h
 obtain ⟨ck, hck⟩ : ∃ ck : Nat, (nodeAt g i).next.getD q 0 = (ck : Int) := ⟨_, (Dg (by omega)).symm⟩
 obtain ⟨cj, hcj⟩ : ∃ cj : Nat, (nodeAt g i).next.getD j 0 = (cj : Int) := ⟨_, (Dg (by omega)).symm⟩
 obtain ⟨bq, oq, iq, lq, dq⟩ := bO.ptr hxwX (show q < (nodeAt g i).weights.length by omega)
 obtain ⟨bj, oj, ij, lj, dj⟩ := bO.ptr hxwX (show j < (nodeAt g i).weights.length by omega)
 obtain ⟨ba, oa, iaa, laa, daa⟩ := bO.ptr hxaX hjl
 rw [hck] at t10
 rw [hcj] at daa
 simp only [hck, hcj, Ba] at pP pla plb' pnb pza hswOk hon
 have sxw := bO.self hxw
 have sxa := bO.self hxa
 have stay : ∀ (F' : Fr) (Y : St), ¬ aFF g T i q j → Same X Y → aC 4 F' = .ptr wb 0 → aC 6 F' = pv → aC 24 F' = nv → aC 25 F' = .int .i64 ((g.nodes.length : Nat) : Int) → aC 26 F' = .int .i64 (i : Int) → aC 8 F' = .ptr V.nx 0 → aC 34 F' = xa → aC 35 F' = .int .i64 (((nodeAt g i).next.length : Nat) : Int) → aC 36 F' = .int .i64 (q : Int) → aC 9 F' = .int .i64 (q : Int) → aC 10 F' = .int .i64 (ck : Int) → aC 11 F' = .int .i64 ((j + 1 : Nat) : Int) → ∃ k', k' < k3 ∧ aH1 S2 wb V.nx nv xa g T cells i q k' ⟨F', false⟩ Y := fun F' Y hne hs a4 a6 a24 a25 a26 a8 a34 a35 a36 a9 a10 a11 =>
  ⟨k3 - 1, by omega, rfl, Ae lxX hs.1, by rw [← hcells]; exact (hs.2 _ lxX).trans hX, j + 1, pv, cs, by omega, by omega, by rw [hoff hne]; exact hS.step hs (by rw [a4, hS.t4]) (by rw [a6, hS.t6]) (by rw [a24, hS.t24]) (by rw [a25, hS.t25]) (by rw [a26, hS.t26]), a8, a34, a35, a36, a9, by rw [hck]; exact a10, a11⟩
 refine aD (aU (aD (aD (mN (fun _ => False) ?_))))
 intro X1 x1
 by_cases hwt : (nodeAt g i).weights.getD q 0 = (nodeAt g i).weights.getD j 0
 rotate_left
 ·simp only [↓sU,sD,rE,↓reduceIte,rA, t8, t9, t11, hS.t4, Ax, aA, aO, aB, fL hX, sxw, lxX, aG, iq, lq, dq, ij, lj, dj, dO, Ad (show (nodeAt g i).weights.getD q 0 ≠ (nodeAt g i).weights.getD j 0 from hwt)]
  refine aY (by simp only [↓sU,sD,rE,↓reduceIte,rA]) (cC ?_)
  simp only [↓sU,sD,rE,↓reduceIte,rA]
  refine aP ?_
  simp only [↓sU,sD,rE,↓reduceIte,rA, t11, w2]
  exact stay _ _ (fun h => hwt (hswOk.1 h).1) x1 (by simp only [↓sU,sD,rE,↓reduceIte,rA, hS.t4]) (by simp only [↓sU,sD,rE,↓reduceIte,rA, hS.t6]) (by simp only [↓sU,sD,rE,↓reduceIte,rA, hS.t24]) (by simp only [↓sU,sD,rE,↓reduceIte,rA, hS.t25]) (by simp only [↓sU,sD,rE,↓reduceIte,rA, hS.t26]) (by simp only [↓sU,sD,rE,↓reduceIte,rA, t8]) (by simp only [↓sU,sD,rE,↓reduceIte,rA, t34]) (by simp only [↓sU,sD,rE,↓reduceIte,rA, t35]) (by simp only [↓sU,sD,rE,↓reduceIte,rA, t36]) (by simp only [↓sU,sD,rE,↓reduceIte,rA, t9]) (by simp only [↓sU,sD,rE,↓reduceIte,rA, t10]) (by simp only [↓sU,sD,rE,↓reduceIte,rA])
 have sX1 := hS.same.trans x1
 simp only [↓sU,sD,rE,↓reduceIte,rA, t8, t9, t10, t11, hS.t4, Ax, aA, aO, aB, eV hX, fL hX, sxw, sxa, lxX, aG, iq, lq, dq, ij, lj, dj, iaa, laa, daa, dO, Aa (show ¬ (nodeAt g i).weights.getD q 0 ≠ (nodeAt g i).weights.getD j 0 from fun h => h hwt)]
 refine iF rfl ?_
 simp only [↓sU,sD,rE,↓reduceIte,rA]
 refine aW (aD7 H G hT hTl (hB.same sX1) (aM.same (E := cL) cB hn2 sX1) pla plb' hwl) ?_
 rintro _ Y ⟨hY, u, rfl, hu⟩
 refine ⟨hY, ?_⟩
 have sXY := x1.trans hY
 simp only [↓sU,sD,rE,↓reduceIte,rA, gS]
 cases u with
 | false =>
  refine aY (by simp only [↓sU,sD,rE,↓reduceIte,rA, Ea]) (cC ?_)
  simp only [↓sU,sD,rE,↓reduceIte,rA]
  refine aP ?_
  simp only [↓sU,sD,rE,↓reduceIte,rA, t11, w2]
  exact stay _ _ (fun h => by have := hu.2 (hswOk.1 h).2.1; cases this) sXY (by simp only [↓sU,sD,rE,↓reduceIte,rA, hS.t4]) (by simp only [↓sU,sD,rE,↓reduceIte,rA, hS.t6]) (by simp only [↓sU,sD,rE,↓reduceIte,rA, hS.t24]) (by simp only [↓sU,sD,rE,↓reduceIte,rA, hS.t25]) (by simp only [↓sU,sD,rE,↓reduceIte,rA, hS.t26]) (by simp only [↓sU,sD,rE,↓reduceIte,rA, t8]) (by simp only [↓sU,sD,rE,↓reduceIte,rA, t34]) (by simp only [↓sU,sD,rE,↓reduceIte,rA, t35]) (by simp only [↓sU,sD,rE,↓reduceIte,rA, t36]) (by simp only [↓sU,sD,rE,↓reduceIte,rA, t9]) (by simp only [↓sU,sD,rE,↓reduceIte,rA, t10]) (by simp only [↓sU,sD,rE,↓reduceIte,rA])
 | true =>
 have hal := hu.1 rfl
 refine aT (by simp only [↓sU,sD,rE,↓reduceIte,rA, De]) (aN ?_)
 try simp only [↓sU,sD,rE,↓reduceIte,rA]
 have hXY := (sXY.2 _ lxX).trans hX
 have sSY := hS.same.trans sXY
 have hxaY := hxa.same sSY
 have iaY := hxaY.iaddr hjl
 have daY := hxaY.ld hjl
 rw [hcj] at daY
 have hbn : cj + eG T ck ≤ g.nodes.length := by rw [hal.1]; exact pnb
 refine cF ?_
 simp only [↓sU,sD,rE,↓reduceIte,rA, t8, t10, t11, hS.t4, aA, aB, eV hXY, aG, iaY, daY]
 refine bJ ?_
 simp only [↓sU,sD,rE,↓reduceIte,rA]
 refine aW (aGN H (hB.same sSY) (aM.same (E := cL) cB hn2 sSY) hln pza pP hbn pla) ?_
 rintro r Y2 ⟨hr, hY2⟩
 try simp only [↓sU,sD,rE,↓reduceIte,rA]
 have sSY2 := sSY.trans hY2
 have M := aGk (g := g) pP hbn
 refine cF ?_
 simp only [↓aH,aJ,rE,↓reduceIte, rA, hS.t4]
 refine bJ ?_
 simp only [↓aH,aJ,rE,↓reduceIte, rA, hS.t4]
 refine aW (aBD H (aM.same (E := cL) cB hn2 sSY2) (aM.same (E := dB) cQ hi2 sSY2) hr.is G M hT hTl (hpv.same sSY2) (hB.same sSY2)) ?_
 rintro _ Y3 ⟨hY3, x, y, u, rfl, hu2, _⟩
 simp only [↓aH,aJ,rE,↓reduceIte, rA, vE, vD]
 refine dC ?_
 intro Y4 y4 n4 g4
 try simp only [↓aH,aJ,rE,↓reduceIte, rA]
 refine dU (b := Y3.nx) (by simp only [↓aH,aJ,rE,↓reduceIte, rA]) (by simp only [↓aH,aJ,rE,↓reduceIte, rA]; exact bK _) g4 rfl rfl ?_
 intro Y5 y5 n5 g5
 simp only [↓aH,aJ,rE,↓reduceIte, rA]
 have s35 : Same Y3 Y5 := y5.same y4 (Af _)
 have sX5 := ((sXY.trans hY2).trans hY3).trans s35
 clear y4 g4 y5 g5
 refine cF ?_
 simp only [↓sU,sD,rE,↓reduceIte,rA]
 cases u with
 | false =>
  refine aT (by simp only [↓sU,sD,rE,↓reduceIte,rA]) (aN ?_)
  try simp only [↓sU,sD,rE,↓reduceIte,rA]
  refine aP ?_
  simp only [↓sU,sD,rE,↓reduceIte,rA, t11, w2]
  exact stay _ _ (fun h => by have := hu2.2 (hswOk.1 h).2.2; cases this) sX5 (by simp only [↓sU,sD,rE,↓reduceIte,rA, hS.t4]) (by simp only [↓sU,sD,rE,↓reduceIte,rA, hS.t6]) (by simp only [↓sU,sD,rE,↓reduceIte,rA, hS.t24]) (by simp only [↓sU,sD,rE,↓reduceIte,rA, hS.t25]) (by simp only [↓sU,sD,rE,↓reduceIte,rA, hS.t26]) (by simp only [↓sU,sD,rE,↓reduceIte,rA, t8]) (by simp only [↓sU,sD,rE,↓reduceIte,rA, t34]) (by simp only [↓sU,sD,rE,↓reduceIte,rA, t35]) (by simp only [↓sU,sD,rE,↓reduceIte,rA, t36]) (by simp only [↓sU,sD,rE,↓reduceIte,rA, t9]) (by simp only [↓sU,sD,rE,↓reduceIte,rA, t10]) (by simp only [↓sU,sD,rE,↓reduceIte,rA])
 | true =>
 have hok := hswOk.2 ⟨hwt, hal, hu2.1 rfl⟩
 have hJ := hon hok
 refine aY (by simp only [↓sU,sD,rE,↓reduceIte,rA]) ?_
 obtain ⟨rb, hrb, r1, r2, r3⟩ := hr
 have hrow : bO .i64 Y5 r (xI g.nodes.length ck cj (eG T ck)) := (zO.is ⟨rb, hrb, r1, r2, r3⟩ : bO .i64 Y2 r _).same (hY3.trans s35)
 have hbl := fun (F : Fr) (id : Nat) (h : aC 88 F = r) => aGb (t := 22) (z := .nilsl) (x := .t 88) (F := F) (id := id) hrow h
 refine aP ?_
 simp only [↓aH,aJ,rE,↓reduceIte, rA, hS.t6]
 refine iO (hbl _ _ (by simp only [↓aH,aJ,rE,↓reduceIte, rA])) ?_
 intro Y6 y6 n6 g6
 try simp only [↓aH,aJ,rE,↓reduceIte, rA]
 have hpb : ∀ {c}, aQ pv = some c → S2.nx ≤ c := fun hc => (hS.gr.blk hc).1
 have nX := hS.same.1
 have n5X := sX5.1
 have hg6 : gN 1 S2 Y6 pv (iH g T i ++ (lJ g T i q ++ jB g T i q j)).length cs := (hS.gr.step sX5).step y6
 have hlen : (iH g T i ++ (lJ g T i q ++ jB g T i q j)).length + 1 ≤ 3000000000 := by
  have a1 := aCK (T := T) G (Nat.le_of_lt hlt)
  have a2 := yJ (g := g) (T := T) (i := i) (k := q)
  have a3 := zB (g := g) (T := T) (i := i) (k := q) (j := j)
  have a4 : q * (nodeAt g i).next.length ≤ 1000 * 1000 := Dl (by omega) hnx
  rw [Ah, Ah]
  omega
 obtain ⟨pv', Z, eA, gA, bA, nA, rA⟩ := gN.push1 (bytes := 24) (x := r) hg6 ((hS.same.trans sX5).trans y6) g6 (by unfold room; omega) (by unfold room; omega)
 refine fX (v := pv') (S1 := Z) (fun call => by simp only [↓aH,aJ,rE,↓reduceIte, rA, fU]; exact eA) ?_
 simp only [↓sU,sD,rE,↓reduceIte,rA]
 refine aP ?_
 simp only [↓sU,sD,rE,↓reduceIte,rA, t11, w2]
 have n6X := y6.1
 have hbA : ∀ {c}, aQ pv' = some c → c = Y6.nx := fun hc => by rw [bA] at hc; exact (Bq hc).symm
 have nbp : aQ pv ≠ some V.nx := fun e => aNt hX (hS.gr.blk e).2.2 rfl
 have kZ : ∀ c, c < X.nx → aQ pv ≠ some c → Z.h.get c = X.h.get c := fun c hc hne => by
  rw [rA c (by omega) hne, y6.2 c (by omega)]
  exact sX5.2 c hc
 have nXY : X.nx ≤ Y.nx := sXY.1
 have r1' : Y.nx ≤ rb := r1
 have hrY : X.nx ≤ rb := by omega
 have hR := hS.rw.push (Z := Z) (pv' := pv') (r := r) (l := xI g.nodes.length ck cj (eG T ck)) nX (by omega) (fun c a _ d => kZ c a d) (fF (hrow.same y6) (by omega) fun c hc => by
  rw [hrb] at hc
  cases hc
  exact rA _ (by have := hY3.1; have := s35.1; omega) fun e => by have := (hS.gr.blk e).2.1; omega) (fun c hc => by
  rw [hrb] at hc
  cases hc
  exact ⟨hrY, fun e => by have := hbA e; have := hY3.1; have := s35.1; omega⟩) (fun c hc => by have := hbA hc; omega)
 refine ⟨k3 - 1, by omega, rfl, by omega, by rw [← hcells]; exact (kZ _ lxX nbp).trans hX, j + 1, pv', cs ++ [r], by omega, by omega, ?_, by refine ⟨?_,?_,?_,?_,?_,?_,?_⟩<;>simp only [↓sU,sD,rE,↓reduceIte,rA,t8,t34,t35,t36,t9,t10,hck]⟩
 have eL : iH g T i ++ (lJ g T i q ++ jB g T i q (j + 1)) = (iH g T i ++ (lJ g T i q ++ jB g T i q j)) ++ [xI g.nodes.length ck cj (eG T ck)] := by
  rw [hJ, Bf, Bf]
 rw [eL]
 refine ⟨⟨by omega, fun c hc => (kZ c (by omega) (fun e => by have := hpb e; omega)).trans (hS.same.2 c hc)⟩, ?_, hR, by simp only [↓sU,sD,rE,↓reduceIte,rA, hS.t4], by simp only [↓sU,sD,rE,↓reduceIte,rA], by simp only [↓sU,sD,rE,↓reduceIte,rA, hS.t24], by simp only [↓sU,sD,rE,↓reduceIte,rA, hS.t25], by simp only [↓sU,sD,rE,↓reduceIte,rA, hS.t26]⟩
 rw [Ah, Aq]
 exact gA
def shN (f s : Int) (x : cM) : cM := ⟨x.kind, x.player, if x.kind = 2 then x.info + s else x.info, x.next.map (· + f), x.weights, x.pay⟩
def iR (one : bF) (seen : Bool) (c : Nat) : Nat := if seen = true then c * one.infos.length else 0
def mT (one : bF) (seen : Bool) (c : Nat) : List cM := one.nodes.map (shN ((1 + c * one.nodes.length : Nat) : Int) ((iR one seen c : Nat) : Int))
def iY (one : bF) (seen : Bool) : Nat → List cM
 | 0 => []
 | c + 1 => iY one seen c ++ mT one seen c
def jV (n c : Nat) : List Int := (List.range c).map fun j : Nat => ((1 + j * n : Nat) : Int)
def aGr (n c : Nat) : cM := ⟨1, 0, 0, jV n c, List.replicate c 1, []⟩
def iN (one : bF) (seen : Bool) : Nat → List iC
 | 0 => []
 | c + 1 => if c = 0 ∨ seen = true then iN one seen c ++ one.infos else iN one seen c
def dG (one : bF) (c : Nat) (seen : Bool) : bF := ⟨one.players, aGr one.nodes.length c :: iY one seen c, iN one seen c⟩
section
variable {one : bF} {seen : Bool}
theorem tF {c : Nat} : (mT one seen c).length = one.nodes.length := by unfold mT; rw [Av]
theorem jJ : ∀ {c : Nat}, (iY one seen c).length = c * one.nodes.length
 | 0 => by rw [Cx]; rfl
 | c + 1 => by
  show (iY one seen c ++ mT one seen c).length = _
  rw [Ah, jJ (c := c), tF, Cg]
theorem aAD {j t : Nat} : ∀ {c : Nat}, j < c → t < one.nodes.length → (iY one seen c)[j * one.nodes.length + t]? = some (shN ((1 + j * one.nodes.length : Nat) : Int) ((iR one seen j : Nat) : Int) (nodeAt one t))
 | 0, h, _ => absurd h (Bv _)
 | c + 1, h, ht => by
  show (iY one seen c ++ mT one seen c)[_]? = _
  by_cases e : j = c
  ·subst e
   rw [Ao (by rw [jJ]; omega), jJ, Ec]
   unfold mT
   rw [Bc, dI ht]
   rfl
  ·have h1 : (j + 1) * one.nodes.length ≤ c * one.nodes.length := Bu _ (by omega)
   rw [Cg] at h1
   rw [An (by rw [jJ]; omega)]
   exact aAD (c := c) (by omega) ht
theorem mM {c : Nat} : (dG one c seen).nodes.length = 1 + c * one.nodes.length := by
 show (_ :: iY one seen c).length = _
 rw [Az, jJ, Nat.add_comm]
theorem lF {c j t : Nat} (hj : j < c) (ht : t < one.nodes.length) : nodeAt (dG one c seen) (1 + j * one.nodes.length + t) = shN ((1 + j * one.nodes.length : Nat) : Int) ((iR one seen j : Nat) : Int) (nodeAt one t) := by
 refine uB ?_
 show (_ :: iY one seen c)[1 + j * one.nodes.length + t]? = _
 rw [show 1 + j * one.nodes.length + t = (j * one.nodes.length + t) + 1 by omega, Ch]
 exact aAD hj ht
theorem aFm {c i : Nat} (h0 : 0 < i) (hi : i < 1 + c * one.nodes.length) : ∃ j t, j < c ∧ t < one.nodes.length ∧ i = 1 + j * one.nodes.length + t := by
 have hn : 0 < one.nodes.length := by
  rcases Be one.nodes.length with h | h
  ·rw [h, Nat.mul_zero] at hi; omega
  ·exact h
 refine ⟨(i - 1) / one.nodes.length, (i - 1) % one.nodes.length, ?_, Nat.mod_lt _ hn, ?_⟩
 ·rw [Nat.div_lt_iff_lt_mul hn]; omega
 ·have := Nat.div_add_mod (i - 1) one.nodes.length
  rw [Nat.mul_comm] at this
  omega
theorem jK (hs : seen = true) : ∀ {c : Nat}, (iN one seen c).length = c * one.infos.length
 | 0 => by rw [Cx]; rfl
 | c + 1 => by
  show (if c = 0 ∨ seen = true then iN one seen c ++ one.infos else iN one seen c).length = _
  rw [if_pos (.inr hs), Ah, jK hs (c := c), Cg]
theorem pE (hs : seen = false) : ∀ {c : Nat}, 0 < c → iN one seen c = one.infos
 | 0, h => absurd h (Bv _)
 | c + 1, _ => by
  show (if c = 0 ∨ seen = true then iN one seen c ++ one.infos else iN one seen c) = _
  by_cases e : c = 0
  ·subst e
   rw [if_pos (.inl rfl)]
   exact Bw _
  ·rw [if_neg (by rw [hs]; rintro (h | h); exact e h; cases h)]
   exact pE hs (by omega)
theorem aHg {j i : Nat} (hi : i < one.infos.length) : ∀ {c : Nat}, j < c → (iN one seen c)[i + iR one seen j]? = one.infos[i]? := by
 intro c hj
 cases hs : seen with
 | false =>
  rw [pE rfl (by omega)]
  unfold iR
  rw [if_neg (by decide), Bj]
 | true =>
  unfold iR
  rw [if_pos rfl]
  induction c with
  | zero => omega
  | succ c ih =>
   show (if c = 0 ∨ true = true then iN one true c ++ one.infos else iN one true c)[_]? = _
   rw [if_pos (.inr rfl)]
   by_cases e : j = c
   ·subst e
    rw [Ao (by rw [jK rfl]; omega), jK rfl, Ep]
   ·have h1 : (j + 1) * one.infos.length ≤ c * one.infos.length := Bu _ (by omega)
    rw [Cg] at h1
    rw [An (by rw [jK rfl]; omega)]
    exact ih (by omega)
end
theorem aBl {rec0 rec : Nat → Option (List cE)} {a : Nat} (hr : ∀ (r : Nat) (L0 : List cE), rec0 r = some L0 → ∃ L, rec (a + r) = some L ∧ L.length = L0.length ∧ L.map (fun t : cE => t.2.1) = L0.map fun t : cE => t.2.1) : ∀ {l : List Int} {r : Nat} {L0 : List cE}, fI rec0 l r = some L0 → ∃ L, fI rec (l.map (· + (a : Int))) (a + r) = some L ∧ L.length = L0.length ∧ L.map (fun t : cE => t.2.1) = L0.map fun t : cE => t.2.1
 | [], r, L0, h => by
  have h : some [] = some L0 := h
  cases h
  exact ⟨[], rfl, rfl, rfl⟩
 | c :: l, r, L0, h => by
  simp only [fI] at h
  split at h
  ·rename_i hc
   obtain ⟨L1, h1, h2⟩ := Cc.1 h
   obtain ⟨L2, h3, rfl⟩ := Aw.1 h2
   obtain ⟨M1, e1, e2, e3⟩ := hr r L1 h1
   obtain ⟨M2, f1, f2, f3⟩ := aBl hr h3
   refine ⟨M1 ++ M2, ?_, by rw [Ah, Ah, e2, f2], by rw [Co, Co, e3, f3]⟩
   show (if c + (a : Int) = ((a + r : Nat) : Int) then (rec (a + r)).bind fun L1 => (fI rec (l.map (· + (a : Int))) (a + r + L1.length)).map (L1 ++ ·) else none) = _
   rw [if_pos (by omega), e1]
   show (fI rec (l.map (· + (a : Int))) (a + r + M1.length)).map (M1 ++ ·) = _
   rw [e2, show a + r + L1.length = a + (r + L1.length) by omega, f1]
   rfl
  ·cases h
theorem aBJ {N0 N a : Nat} {nx0 nx : Nat → List Int} (hN : a + N0 ≤ N) (hnx : ∀ j, j < N0 → nx (a + j) = (nx0 j).map (· + (a : Int))) : ∀ {f i : Nat} {p q d : Int} {L0 : List cE}, eS N0 nx0 f i p d = some L0 → ∃ L, eS N nx f (a + i) q d = some L ∧ L.length = L0.length ∧ L.map (fun t : cE => t.2.1) = L0.map fun t : cE => t.2.1
 | 0, _, _, _, _, _, h => by cases h
 | f + 1, i, p, q, d, L0, h => by
  simp only [eS] at h
  split at h
  ·rename_i hi
   obtain ⟨L, h1, rfl⟩ := Aw.1 h
   obtain ⟨M, e1, e2, e3⟩ := aBl (rec := fun r => eS N nx f r ((a + i : Nat) : Int) (d + 1)) (a := a) (fun r L0 hL => aBJ hN hnx hL) h1
   refine ⟨(q, d, ((a + i + M.length : Nat) : Int)) :: M, ?_, by rw [Az, Az, e2], by rw [Dd, Dd, e3]⟩
   simp only [eS]
   rw [if_pos (by omega), hnx i hi, show a + i + 1 = a + (i + 1) by omega, e1]
   rfl
  ·cases h
theorem oW.shift {k a : Nat} {s : Int} {B : List cM} (h : oW k 0 B) : oW k a (B.map (shN (a : Int) s)) := by
 refine ⟨by rw [Av]; exact h.1, fun N nx hN hnx f p d hf => ?_⟩
 rw [Av] at hN hf
 obtain ⟨L0, h1, h2, h3⟩ := h.2 B.length (fun i => ((B[i]?).map (·.next)).getD []) (by omega) (fun i x hi => by
  show ((B[0 + i]?).map (·.next)).getD [] = _
  rw [Am, hi]; rfl) f p d hf
 obtain ⟨L, e1, e2, e3⟩ := aBJ (N := N) (a := a) (nx := nx) (q := p) hN (fun j hj => by
  have := hnx j (shN (a : Int) s B[j]) (by rw [Bc, Ab hj]; rfl)
  rw [this, Ab hj]
  rfl) h1
 refine ⟨L, e1, by rw [e2, h2, Av], fun t ht => ?_⟩
 have hm : t.2.1 ∈ L0.map fun t : cE => t.2.1 := by rw [← e3]; exact Dr.2 ⟨t, ht, rfl⟩
 obtain ⟨u, hu, he⟩ := Dr.1 hm
 have := h3 u hu
 omega
theorem eR.le {l : List (Option Nat)} {n : Nat} (h : eR l n) : n ≤ l.length := by
 induction h with
 | nil => exact Af _
 | none _ ih => rw [Ah]; omega
 | old _ _ ih => rw [Ah]; omega
 | new _ ih => rw [Ah, Aq]; omega
theorem eR.lt {l : List (Option Nat)} {n : Nat} (h : eR l n) : ∀ i, some i ∈ l → i < n := by
 induction h with
 | nil => intro i hi; cases hi
 | none _ ih =>
  intro i hi
  rcases Bh.1 hi with h | h
  ·exact ih i h
  ·have := Cf.1 h; cases this
 | old _ hlt ih =>
  intro i hi
  rcases Bh.1 hi with h | h
  ·exact ih i h
  ·have := Cf.1 h; cases this; exact hlt
 | new _ ih =>
  intro i hi
  rcases Bh.1 hi with h | h
  ·have := ih i h; omega
  ·have := Cf.1 h; cases this; omega
theorem eR.app {l l' : List (Option Nat)} {n n' : Nat} (h : eR l n) (h' : eR l' n') : eR (l ++ l'.map (Option.map (· + n))) (n + n') := by
 induction h' with
 | nil => rw [List.map_nil, Bk]; exact h
 | none _ ih => rw [Co, ← Bf]; exact ih.none
 | old _ hlt ih => rw [Co, ← Bf]; exact ih.old (by show _ + n < _; omega)
 | @new l'' n'' _ ih =>
  rw [Co, ← Bf]
  have := ih.new
  rw [show n + n'' = n'' + n by omega] at this
  show eR (_ ++ [some (n'' + n)]) _
  rw [show n + (n'' + 1) = n'' + n + 1 by omega]
  exact this
theorem eR.same : ∀ {l' l : List (Option Nat)} {n : Nat}, eR l n → (∀ i, some i ∈ l' → i < n) → eR (l ++ l') n
 | [], l, n, h, _ => by rw [Bk]; exact h
 | x :: l', l, n, h, h' => by
  rw [List.append_cons]
  refine eR.same ?_ fun i hi => h' i (Bg _ hi)
  cases x with
  | none => exact h.none
  | some i => exact h.old (h' i (Bm ..))
structure rH (one : bF) : Prop where
 prs : 1 ≤ one.players ∧ one.players ≤ 4
 n1 : 1 ≤ one.nodes.length
 n2 : one.nodes.length ≤ 60
 form : dF one = 0
 ok : ∀ x ∈ one.nodes, gT one.players one.infos x
 sub : ∃ k, k ≤ 5 ∧ oW k 0 one.nodes
 ord : eR (one.nodes.map tP) one.infos.length
section
variable {one : bF} {seen : Bool}
theorem aA4 {x : cM} : ∀ {c : Nat}, x ∈ iY one seen c → ∃ j y, j < c ∧ y ∈ one.nodes ∧ x = shN ((1 + j * one.nodes.length : Nat) : Int) ((iR one seen j : Nat) : Int) y
 | 0, h => by cases h
 | c + 1, h => by
  rcases Bh.1 h with h | h
  ·obtain ⟨j, y, a, b, e⟩ := aA4 h
   exact ⟨j, y, by omega, b, e⟩
  ·obtain ⟨y, b, e⟩ := Dr.1 h
   exact ⟨c, y, Dn _, b, e.symm⟩
theorem aLL {c j : Nat} {y : cM} {f : Int} (hj : j < c) (h : gT one.players one.infos y) : gT one.players (iN one seen c) (shN f ((iR one seen j : Nat) : Int) y) := by
 have hl : (shN f ((iR one seen j : Nat) : Int) y).next.length = y.next.length := Av ..
 rcases h with h | h | h
 ·refine .inl ⟨h.kind, h.player, ?_, ?_, h.wts, h.len, h.pay⟩
  ·show (if y.kind = 2 then _ else y.info) = 0
   rw [if_neg (by rw [h.kind]; decide)]
   exact h.info
  ·show y.next.map _ = []
   rw [h.next]
   rfl
 ·refine .inr (.inl ⟨h.kind, h.player, ?_, h.pay, by rw [hl]; exact h.n1, by rw [hl]; exact h.n2, by rw [hl]; exact h.len, h.wts⟩)
  show (if y.kind = 2 then _ else y.info) = 0
  rw [if_neg (by rw [h.kind]; decide)]
  exact h.info
 ·have hi : (shN f ((iR one seen j : Nat) : Int) y).info = y.info + ((iR one seen j : Nat) : Int) := by
   show (if y.kind = 2 then _ else y.info) = _
   rw [if_pos h.kind]
  refine .inr (.inr ⟨h.kind, h.wts, h.pay, by rw [hl]; exact h.n1, by rw [hl]; exact h.n2, h.pl, by rw [hi]; have := h.inf; omega, ?_⟩)
  have hlt := (Ai.1 h.at_).1
  rw [hi, show (y.info + ((iR one seen j : Nat) : Int)).toNat = y.info.toNat + iR one seen j by have := h.inf; omega, aHg hlt hj, h.at_, hl]
  rfl
theorem aKh {n c : Nat} {ps : Int} {I : List iC} (hc : 1 ≤ c ∧ c ≤ 3) : gT ps I (aGr n c) := by
 have hl : (aGr n c).next.length = c := by show (jV n c).length = c; unfold jV; rw [Av, Cy]
 refine .inr (.inl ⟨rfl, rfl, rfl, rfl, by rw [hl]; exact hc.1, by rw [hl]; exact hc.2, by rw [hl]; exact Ap .., fun w hw => ?_⟩)
 have : w ∈ List.replicate c (1 : Int) := hw
 rw [List.eq_of_mem_replicate this]
 decide
theorem aAW {k : Nat} (h : oW k 0 one.nodes) : ∀ {c : Nat}, aBc k 1 (jV one.nodes.length c) (iY one seen c)
 | 0 => aBc.nil
 | c + 1 => by
  have := (aAW h (c := c)).snoc (B := mT one seen c) (by rw [jJ]; exact h.shift)
  rw [jJ] at this
  have e : jV one.nodes.length (c + 1) = jV one.nodes.length c ++ [((1 + c * one.nodes.length : Nat) : Int)] := by unfold jV; rw [List.range_succ, Co]; rfl
  rw [e]
  exact this
theorem aLw {f : Int} {s : Nat} {y : cM} (h : y.kind = 2 → 0 ≤ y.info) : tP (shN f (s : Int) y) = (tP y).map (· + s) := by
 unfold tP
 by_cases hk : y.kind = 2
 ·rw [if_pos hk, if_pos (show (shN f (s : Int) y).kind = 2 from hk)]
  have e : (shN f (s : Int) y).info = y.info + (s : Int) := by
   show (if y.kind = 2 then _ else y.info) = _
   rw [if_pos hk]
  rw [e]
  show some (y.info + (s : Int)).toNat = some (y.info.toNat + s)
  have := h hk
  rw [show (y.info + (s : Int)).toNat = y.info.toNat + s by omega]
 ·rw [if_neg hk, if_neg (show ¬ (shN f (s : Int) y).kind = 2 from hk)]
  rfl
theorem aIr {c : Nat} (h : rH one) : (mT one seen c).map tP = (one.nodes.map tP).map (Option.map (· + iR one seen c)) := by
 unfold mT
 rw [Ei, Ei]
 refine Dt fun y hy => ?_
 refine aLw fun hk => ?_
 rcases h.ok y hy with h | h | h
 ·have := h.kind; omega
 ·have := h.kind; omega
 ·exact h.inf
theorem uO (h : rH one) : ∀ {c : Nat}, 0 < c → eR ((iY one seen c).map tP) (iN one seen c).length
 | 0, h0 => absurd h0 (Bv _)
 | c + 1, _ => by
  show eR ((iY one seen c ++ mT one seen c).map tP) _
  rw [Co, aIr h]
  by_cases hs : seen = true
  ·rw [jK hs]
   have e : iR one seen c = c * one.infos.length := by unfold iR; rw [if_pos hs]
   rw [e, Cg]
   rcases Be c with h0 | h0
   ·subst h0
    rw [Cx, Am]
    have := eR.app eR.nil h.ord
    rwa [Am] at this
   ·have := uO h h0
    rw [jK hs] at this
    exact this.app h.ord
  ·have hs : seen = false := by cases seen <;> first | rfl | exact absurd rfl hs
   rw [pE hs (Nat.succ_pos c)]
   have e : iR one seen c = 0 := by unfold iR; rw [if_neg (by rw [hs]; decide)]
   rw [e]
   rcases Be c with h0 | h0
   ·subst h0
    have := eR.app eR.nil h.ord
    rwa [Am] at this
   ·have := uO h h0
    rw [pE hs h0] at this
    refine this.same fun i hi => ?_
    obtain ⟨x, hx, he⟩ := Dr.1 hi
    cases x with
    | none => cases he
    | some v =>
     have he : some (v + 0) = some i := he
     cases he
     exact h.ord.lt v hx
theorem eR.cons {l : List (Option Nat)} {n : Nat} (h : eR l n) : eR (Option.none :: l) n := by
 induction h with
 | nil => exact eR.nil.none
 | none _ ih => exact ih.none
 | old _ hlt ih => exact ih.old hlt
 | new _ ih => exact ih.new
theorem yN {c : Nat} (h : rH one) (hc : 1 ≤ c ∧ c ≤ 3) : dF (dG one c seen) = 0 ∧ (∀ x ∈ (dG one c seen).nodes, gT (dG one c seen).players (dG one c seen).infos x) := by
 obtain ⟨k, hk, hS⟩ := h.sub
 have hn1 := h.n1
 have hn2 := h.n2
 have hm : one.infos.length ≤ one.nodes.length := by have := h.ord.le; rwa [Av] at this
 have hcn : c * one.nodes.length ≤ 3 * 60 := Dl hc.2 h.n2
 have hcm : (iN one seen c).length ≤ 3 * 60 := by
  cases hs : seen with
  | true => rw [jK rfl]; exact Dl hc.2 (by omega)
  | false => rw [pE rfl hc.1]; omega
 have hok : ∀ x ∈ (dG one c seen).nodes, gT (dG one c seen).players (dG one c seen).infos x := fun x hx => by
  rcases Br.1 hx with rfl | hx
  ·exact aKh hc
  ·obtain ⟨j, y, hj, hy, rfl⟩ := aA4 hx
   exact aLL hj (h.ok y hy)
 refine ⟨aEp (k := k + 1) h.prs (by rw [mM]; omega) (by show (iN one seen c).length ≤ 200; omega) hok (oW.node (aAW hS)) (by omega) ?_, hok⟩
 show eR (tP (aGr one.nodes.length c) :: (iY one seen c).map tP) _
 exact (uO h hc.1).cons
end
def xg (j : Nat) : Nat := if j = 0 then 1 else if j = 1 then 0 else j
theorem xC {c j : Nat} (hc : 2 ≤ c) (hj : j < c) : xg j < c := by
 unfold xg
 split
 ·omega
 ·split <;> omega
theorem aNg {n j t : Nat} (ht : t < n) : swF 1 (1 + n) n (1 + j * n + t) = 1 + xg j * n + t := by
 unfold swF xg
 rcases Ek j 1 with h | h | h
 ·obtain rfl : j = 0 := by omega
  rw [if_pos (show 1 ≤ 1 + 0 * n + t ∧ 1 + 0 * n + t < 1 + n by omega), if_pos rfl]
  omega
 ·subst h
  rw [if_neg (show ¬ (1 ≤ 1 + 1 * n + t ∧ 1 + 1 * n + t < 1 + n) by omega), if_pos (show 1 + n ≤ 1 + 1 * n + t ∧ 1 + 1 * n + t < 1 + n + n by omega), if_neg (by decide), if_pos rfl]
  omega
 ·have : 2 * n ≤ j * n := Bu _ h
  rw [if_neg (show ¬ (1 ≤ 1 + j * n + t ∧ 1 + j * n + t < 1 + n) by omega), if_neg (show ¬ (1 + n ≤ 1 + j * n + t ∧ 1 + j * n + t < 1 + n + n) by omega), if_neg (by omega), if_neg (by omega)]
theorem aCG {l : List Int} {k : Nat} {x : Int} (hk : k < l.length) (he : l.getD k 0 = x) (hd : ∀ k', k' < l.length → l.getD k' 0 = x → k' = k) : oM l 0 x = (k : Int) := by
 have hm : l[k]? = some x := by rw [← he, Ac, Ab hk]; rfl
 rcases mA (c := x) (l := l) (s := 0) with ⟨_, h2⟩ | ⟨k1, h1, h2, _⟩
 ·exact absurd (Bx hm) h2
 ·have := hd k1 (Ai.1 h2).1 (by rw [Ac, h2]; rfl)
  rw [h1, this, Am]
theorem wF {l : List Int} {f : Int} {k : Nat} (hk : k < l.length) : (l.map (· + f)).getD k 0 = l.getD k 0 + f := by
 rw [Ac, Bc, Ab hk, Ac, Ab hk]
 rfl
section
variable {one : bF} {seen : Bool} {c : Nat}
theorem xK {j t : Nat} (hj : j < c) (ht : t < one.nodes.length) : 1 + j * one.nodes.length + t < (dG one c seen).nodes.length := by
 rw [mM]
 have : (j + 1) * one.nodes.length ≤ c * one.nodes.length := Bu _ hj
 rw [Cg] at this
 omega
theorem aAV (G1 : dT one) {j t k : Nat} (hj : j < c) (ht : t < one.nodes.length) (hk : k < (nodeAt one t).next.length) : ∃ u, u < one.nodes.length ∧ (nodeAt one t).next.getD k 0 = (u : Int) ∧ (nodeAt (dG one c seen) (1 + j * one.nodes.length + t)).next.getD k 0 = ((1 + j * one.nodes.length + u : Nat) : Int) := by
 obtain ⟨a, b⟩ := G1.kids t ht k hk
 refine ⟨((nodeAt one t).next.getD k 0).toNat, by omega, by omega, ?_⟩
 rw [lF hj ht]
 show ((nodeAt one t).next.map (· + _)).getD k 0 = _
 rw [wF hk]
 omega
theorem pH {j t : Nat} (hj : j < c) (ht : t < one.nodes.length) : (nodeAt (dG one c seen) (1 + j * one.nodes.length + t)).next.length = (nodeAt one t).next.length := by
 rw [lF hj ht]
 exact Av ..
theorem aHI {n k : Nat} (hk : k < c) : (jV n c).getD k 0 = ((1 + k * n : Nat) : Int) := by
 unfold jV
 exact mZ hk
theorem tJ {n : Nat} : (jV n c).length = c := by unfold jV; rw [Av, Cy]
theorem vX (h1 : 1 ≤ one.nodes.length) (hc : 2 ≤ c) {j t : Nat} (hj : j < c) (ht : t < one.nodes.length) : eK (xI (dG one c seen).nodes.length 1 (1 + one.nodes.length) one.nodes.length) (1 + j * one.nodes.length + t) = 1 + xg j * one.nodes.length + t := by
 rw [aAO (xK hj ht)]
 exact aNg ht
theorem aAk : eK (xI (dG one c seen).nodes.length 1 (1 + one.nodes.length) one.nodes.length) 0 = 0 := by
 rw [aAO (by rw [mM]; omega)]
 unfold swF
 rw [if_neg (by omega), if_neg (by omega)]
theorem aFX {i : Nat} (hi : i < (dG one c seen).nodes.length) : (xI (dG one c seen).nodes.length 1 (1 + one.nodes.length) one.nodes.length).getD i 0 = ((eK (xI (dG one c seen).nodes.length 1 (1 + one.nodes.length) one.nodes.length) i : Nat) : Int) := by
 rw [aAO hi]
 unfold xI
 rw [mZ hi]
theorem aC2 (G : dT (dG one c seen)) (G1 : dT one) (h1 : 1 ≤ one.nodes.length) (hc : 2 ≤ c) {j t k : Nat} (hj : j < c) (ht : t < one.nodes.length) (hk : k < (nodeAt one t).next.length) : fC (dG one c seen) (xI (dG one c seen).nodes.length 1 (1 + one.nodes.length) one.nodes.length) (1 + j * one.nodes.length + t) k = (k : Int) := by
 have hs := xC hc hj
 obtain ⟨u, hu, e1, e2⟩ := aAV (seen := seen) G1 hj ht hk
 obtain ⟨u', hu', e1', e3⟩ := aAV (seen := seen) G1 hs ht hk
 obtain rfl : u' = u := by omega
 unfold fC
 rw [e2, Ba, aFX (xK hj hu), vX h1 hc hj hu, vX h1 hc hj ht]
 refine aCG (by rw [pH hs ht]; exact hk) e3 fun k' hk' he => ?_
 exact (G.only (xK hs ht) hk' (xK hs ht) (by rw [pH hs ht]; exact hk) (by rw [he, e3])).2
theorem aD5 (G : dT (dG one c seen)) (h1 : 1 ≤ one.nodes.length) (hc : 2 ≤ c) {k : Nat} (hk : k < c) : fC (dG one c seen) (xI (dG one c seen).nodes.length 1 (1 + one.nodes.length) one.nodes.length) 0 k = ((xg k : Nat) : Int) := by
 have hs := xC hc hk
 have hN : 0 < (dG one c seen).nodes.length := by rw [mM]; omega
 have e : ∀ q, q < c → (nodeAt (dG one c seen) 0).next.getD q 0 = ((1 + q * one.nodes.length : Nat) : Int) := fun q hq => aHI hq
 have hl : (nodeAt (dG one c seen) 0).next.length = c := tJ
 have h2 := vX (seen := seen) h1 hc hk (t := 0) h1
 rw [Bj, Bj] at h2
 unfold fC
 rw [aAk, e k hk, Ba, aFX (by have := xK (seen := seen) hk (t := 0) h1; rwa [Bj] at this), h2]
 refine aCG (by rw [hl]; exact hs) (e _ hs) fun k' hk' he => ?_
 exact (G.only hN hk' hN (by rw [hl]; exact hs) (by rw [he, e _ hs])).2
theorem aG0 (h : rH one) (hc : 2 ≤ c ∧ c ≤ 3) : lG (dG one c seen) (xI (dG one c seen).nodes.length 1 (1 + one.nodes.length) one.nodes.length) := by
 have G := jA (yN (seen := seen) h ⟨by omega, hc.2⟩).1
 have G1 := jA h.form
 have h1 := h.n1
 have hlen := mM (one := one) (seen := seen) (c := c)
 have split := fun i (h0 : 0 < i) (hi : i < (dG one c seen).nodes.length) => aFm (one := one) (c := c) h0 (by rw [← hlen]; exact hi)
 have hroot : (nodeAt (dG one c seen) 0).next.length = c := tJ
 have kind_at := fun j t (hj : j < c) (ht : t < one.nodes.length) => show (nodeAt (dG one c seen) (1 + j * one.nodes.length + t)).kind = (nodeAt one t).kind by rw [lF hj ht]; rfl
 have mF := fun j t (hj : j < c) (ht : t < one.nodes.length) (hk : (nodeAt one t).kind = 2) => show (nodeAt (dG one c seen) (1 + j * one.nodes.length + t)).info = (nodeAt one t).info + ((iR one seen j : Nat) : Int) by
  rw [lF hj ht]
  show (if (nodeAt one t).kind = 2 then _ else _) = _
  rw [if_pos hk]
 have inf1 := fun t (ht : t < one.nodes.length) (hk : (nodeAt one t).kind = 2) => G1.inf t ht hk
 have off_inj : ∀ (j j' : Nat) (x y : Int), 0 ≤ x → x < (one.infos.length : Int) → 0 ≤ y → y < (one.infos.length : Int) → x + ((iR one seen j : Nat) : Int) = y + ((iR one seen j' : Nat) : Int) → x = y ∧ (seen = true → j = j') := by
  intro j j' x y hx1 hx2 hy1 hy2 he
  unfold iR at he
  by_cases hs : seen = true
  ·rw [if_pos hs, if_pos hs] at he
   rcases Ek j j' with hlt | heq | hlt
   ·have := Bu one.infos.length (show j + 1 ≤ j' from hlt)
    rw [Cg] at this
    omega
   ·subst heq; exact ⟨by omega, fun _ => rfl⟩
   ·have := Bu one.infos.length (show j' + 1 ≤ j from hlt)
    rw [Cg] at this
    omega
  ·rw [if_neg hs, if_neg hs] at he
   exact ⟨by omega, fun h => absurd h hs⟩
 have off_xg : ∀ j j' : Nat, (seen = true → j = j') → iR one seen (xg j) = iR one seen (xg j') := fun j j' hjj => by
  unfold iR
  by_cases hs : seen = true
  ·rw [hjj hs]
  ·rw [if_neg hs, if_neg hs]
 have xg_xg : ∀ j, xg (xg j) = j := fun j => by
  unfold xg
  by_cases e0 : j = 0
  ·rw [if_pos e0, e0]; rfl
  ·rw [if_neg e0]
   by_cases e1 : j = 1
   ·rw [if_pos e1, e1]; rfl
   ·rw [if_neg e1, if_neg e0, if_neg e1]
 refine ⟨?_, fun i hi => ?_, fun i k hi hk => ?_, fun i k hi hk hk1 => ?_, fun i i' hi hi' hk hk' he => ?_, fun i i' hi hi' hk hk' he => ?_⟩
 ·rw [aFX (by rw [hlen]; omega), aAk]; rfl
 ·rcases Be i with h0 | h0
  ·subst h0; rw [aAk]; exact ⟨rfl, rfl, rfl, rfl⟩
  ·obtain ⟨j, t, hj, ht, rfl⟩ := split i h0 hi
   have hs := xC hc.1 hj
   rw [vX h1 hc.1 hj ht, lF hj ht, lF hs ht]
   exact ⟨rfl, by show (List.map _ _).length = (List.map _ _).length; rw [Av, Av], rfl, rfl⟩
 ·rcases Be i with h0 | h0
  ·subst h0; rw [aD5 G h1 hc.1 (by rwa [hroot] at hk)]; omega
  ·obtain ⟨j, t, hj, ht, rfl⟩ := split i h0 hi
   rw [aC2 G G1 h1 hc.1 hj ht (by rwa [pH hj ht] at hk)]; omega
 ·rcases Be i with h0 | h0
  ·subst h0
   rw [hroot] at hk
   rw [aD5 G h1 hc.1 hk, Ba, aAk]
   have hs := xC hc.1 hk
   have e : ∀ q, q < c → (nodeAt (dG one c seen) 0).weights.getD q 0 = 1 := fun q hq => by
    show (List.replicate c (1 : Int)).getD q 0 = 1
    rw [Ac, Ca, if_pos hq]
    rfl
   rw [e k hk, e _ hs]
  ·obtain ⟨j, t, hj, ht, rfl⟩ := split i h0 hi
   have hs := xC hc.1 hj
   rw [aC2 G G1 h1 hc.1 hj ht (by rwa [pH hj ht] at hk), Ba, vX h1 hc.1 hj ht, lF hj ht, lF hs ht]
   rfl
 ·rcases Be i with h0 | h0
  ·subst h0; cases hk
  rcases Be i' with h0' | h0'
  ·subst h0'; cases hk'
  obtain ⟨j, t, hj, ht, rfl⟩ := split i h0 hi
  obtain ⟨j', t', hj', ht', rfl⟩ := split i' h0' hi'
  have hs := xC hc.1 hj
  have hs' := xC hc.1 hj'
  rw [kind_at j t hj ht] at hk
  rw [kind_at j' t' hj' ht'] at hk'
  rw [mF j t hj ht hk, mF j' t' hj' ht' hk'] at he
  obtain ⟨a1, a2, a3⟩ := inf1 t ht hk
  obtain ⟨b1, b2, b3⟩ := inf1 t' ht' hk'
  obtain ⟨x1, x2⟩ := off_inj j j' _ _ a1 a2 b1 b2 he
  rw [vX h1 hc.1 hj ht, vX h1 hc.1 hj' ht', mF _ t hs ht hk, mF _ t' hs' ht' hk', x1, off_xg j j' x2]
  refine ⟨rfl, fun k hk2 => ?_⟩
  rw [pH hj ht] at hk2
  rw [← x1, a3] at b3
  rw [aC2 G G1 h1 hc.1 hj ht hk2, aC2 G G1 h1 hc.1 hj' ht' (by omega)]
 ·rcases Be i with h0 | h0
  ·subst h0; cases hk
  rcases Be i' with h0' | h0'
  ·subst h0'; cases hk'
  obtain ⟨j, t, hj, ht, rfl⟩ := split i h0 hi
  obtain ⟨j', t', hj', ht', rfl⟩ := split i' h0' hi'
  have hs := xC hc.1 hj
  have hs' := xC hc.1 hj'
  rw [kind_at j t hj ht] at hk
  rw [kind_at j' t' hj' ht'] at hk'
  rw [vX h1 hc.1 hj ht, vX h1 hc.1 hj' ht', mF _ t hs ht hk, mF _ t' hs' ht' hk'] at he
  obtain ⟨a1, a2, _⟩ := inf1 t ht hk
  obtain ⟨b1, b2, _⟩ := inf1 t' ht' hk'
  obtain ⟨x1, x2⟩ := off_inj _ _ _ _ a1 a2 b1 b2 he
  rw [mF j t hj ht hk, mF j' t' hj' ht' hk', x1]
  have := off_xg (xg j) (xg j') x2
  rw [xg_xg, xg_xg] at this
  rw [this]
end
theorem aB9 {N : Nat} {nx : Nat → List Int} {f a : Nat} {p d : Int} {L : List cE} (h : eS N nx f a p d = some L) : ∃ t, L[0]? = some t ∧ t.2.2 + 1 = ((a + L.length : Nat) : Int) := by
 cases f with
 | zero => cases h
 | succ f =>
  simp only [eS] at h
  split at h
  ·obtain ⟨M, _, rfl⟩ := Aw.1 h
   refine ⟨_, rfl, ?_⟩
   rw [Az]
   show ((a + M.length : Nat) : Int) + 1 = _
   omega
  ·cases h
section
variable {one : bF} {seen : Bool} {c : Nat} {T : List cE}
theorem aCQ {n : Nat} (hc : 2 ≤ c) : ∃ l, jV n c = 1 :: ((1 + n : Nat) : Int) :: l := by
 obtain ⟨d, rfl⟩ : ∃ d, c = d + 2 := ⟨c - 2, by omega⟩
 refine ⟨(List.range d).map fun j : Nat => ((1 + (j + 1 + 1) * n : Nat) : Int), ?_⟩
 unfold jV
 rw [List.range_succ_eq_map, List.range_succ_eq_map, Dd, Dd, Dd, Ei, Ei]
 have e0 : ((1 + 0 * n : Nat) : Int) = 1 := by rw [Cx]; rfl
 have e1 : ((1 + (Nat.succ 0) * n : Nat) : Int) = ((1 + n : Nat) : Int) := by rw [show Nat.succ 0 * n = n from Eo n]
 rw [e0, e1]
 rfl
theorem aFr (h : rH one) (hc : 2 ≤ c) (hT : fK (dG one c seen) = some T) : eG T 1 = one.nodes.length ∧ eG T (1 + one.nodes.length) = one.nodes.length := by
 obtain ⟨k, _, hS⟩ := h.sub
 have h1 := h.n1
 have hlen := mM (one := one) (seen := seen) (c := c)
 have hsub : ∀ j, j < c → ∃ L, eS (dG one c seen).nodes.length (dN (dG one c seen)) (dG one c seen).nodes.length (1 + j * one.nodes.length) ((0 : Nat) : Int) (0 + 1) = some L ∧ L.length = one.nodes.length := fun j hj => by
  have hs := hS.shift (a := 1 + j * one.nodes.length) (s := ((iR one seen j : Nat) : Int))
  obtain ⟨L, e1, e2, _⟩ := hs.2 (dG one c seen).nodes.length (dN (dG one c seen)) (by
   rw [Av]
   obtain ⟨t, ht⟩ : ∃ t, one.nodes.length = t + 1 := ⟨one.nodes.length - 1, by omega⟩
   have := xK (one := one) (seen := seen) hj (t := t) (by omega)
   omega) (fun i x hi => by
   have hlt := (Ai.1 hi).1
   rw [Av] at hlt
   rw [iA, lF hj hlt]
   rw [Bc, dI hlt] at hi
   cases hi
   rfl) (dG one c seen).nodes.length ((0 : Nat) : Int) (0 + 1) (by rw [Av, hlen]; have : 1 * one.nodes.length ≤ c * one.nodes.length := Bu _ (by omega); omega)
  exact ⟨L, e1, by rw [e2, Av]⟩
 obtain ⟨l, hl⟩ := aCQ (n := one.nodes.length) hc
 have hw : eS (dG one c seen).nodes.length (dN (dG one c seen)) ((dG one c seen).nodes.length + 1) 0 (-1) 0 = some T := hT
 simp only [eS] at hw
 rw [if_pos (by omega)] at hw
 obtain ⟨L, hk, rfl⟩ := Aw.1 hw
 have hn0 : dN (dG one c seen) 0 = jV one.nodes.length c := by rw [iA]; rfl
 rw [hn0, hl] at hk
 obtain ⟨L0, a1, a2⟩ := hsub 0 (by omega)
 obtain ⟨L1, b1, b2⟩ := hsub 1 (by omega)
 rw [Cx, Bj] at a1
 rw [Eo] at b1
 simp only [fI, Am] at hk
 rw [if_pos (by rfl)] at hk
 obtain ⟨L0', c1, c2⟩ := Cc.1 hk
 rw [show (0 : Int) + 1 = 0 + 1 from rfl] at c1
 have c1' := c1.symm.trans a1
 cases c1'
 obtain ⟨M, c3, rfl⟩ := Aw.1 c2
 rw [a2] at c3
 rw [if_pos rfl] at c3
 obtain ⟨L1', d1, d2⟩ := Cc.1 c3
 have d1' := d1.symm.trans b1
 cases d1'
 obtain ⟨M2, _, rfl⟩ := Aw.1 d2
 obtain ⟨t0, e0, f0⟩ := aB9 a1
 obtain ⟨t1, e1, f1⟩ := aB9 b1
 rw [a2] at f0
 rw [b2] at f1
 refine ⟨?_, ?_⟩
 ·unfold eG
  have : ((-1, 0, ((0 + (L0 ++ (L1 ++ M2)).length : Nat) : Int)) :: (L0 ++ (L1 ++ M2)) : List cE)[1]? = some t0 := by
   rw [Ch, An (by omega)]
   exact e0
  rw [this]
  show (t0.2.2 + 1 - ((1 : Nat) : Int)).toNat = _
  omega
 ·unfold eG
  have : ((-1, 0, ((0 + (L0 ++ (L1 ++ M2)).length : Nat) : Int)) :: (L0 ++ (L1 ++ M2)) : List cE)[1 + one.nodes.length]? = some t1 := by
   rw [Nat.add_comm 1, Ch, Ao (by omega), a2, Ej, An (by omega)]
   exact e1
  rw [this]
  show (t1.2.2 + 1 - ((1 + one.nodes.length : Nat) : Int)).toNat = _
  omega
theorem aGK (h : rH one) (hc : 2 ≤ c ∧ c ≤ 3) (hT : fK (dG one c seen) = some T) : aFF (dG one c seen) T 0 0 1 := by
 obtain ⟨z0, z1⟩ := aFr h hc.1 hT
 have h1 := h.n1
 obtain ⟨l, hl⟩ := aCQ (n := one.nodes.length) hc.1
 have e0 : ((nodeAt (dG one c seen) 0).next.getD 0 0).toNat = 1 := by
  show ((jV one.nodes.length c).getD 0 0).toNat = 1
  rw [hl]; rfl
 have e1 : ((nodeAt (dG one c seen) 0).next.getD 1 0).toNat = 1 + one.nodes.length := by
  show ((jV one.nodes.length c).getD 1 0).toNat = _
  rw [hl]
  show (((1 + one.nodes.length : Nat) : Int)).toNat = _
  omega
 unfold aFF
 rw [e0, e1, z0]
 refine ⟨?_, ⟨by rw [z0, z1], fun t ht => ?_⟩, aG0 h hc⟩
 ·have e : ∀ q, q < c → (nodeAt (dG one c seen) 0).weights.getD q 0 = 1 := fun q hq => by
   show (List.replicate c (1 : Int)).getD q 0 = 1
   rw [Ac, Ca, if_pos hq]
   rfl
  rw [e 0 (by omega), e 1 (by omega)]
 ·rw [z0] at ht
  have x0 := lF (one := one) (seen := seen) (c := c) (j := 0) (t := t) (by omega) ht
  have x1 := lF (one := one) (seen := seen) (c := c) (j := 1) (t := t) (by omega) ht
  rw [Cx, Bj] at x0
  rw [Eo] at x1
  rw [x0, x1]
  refine ⟨rfl, rfl, rfl, rfl, by show (List.map _ _).length = (List.map _ _).length; rw [Av, Av], fun k hk => ?_⟩
  have hk' : k < (nodeAt one t).next.length := by
   have : k < (List.map (· + ((1 : Nat) : Int)) (nodeAt one t).next).length := hk
   rwa [Av] at this
  show (List.map (· + ((1 : Nat) : Int)) (nodeAt one t).next).getD k 0 - ((1 : Nat) : Int) = (List.map (· + ((1 + one.nodes.length : Nat) : Int)) (nodeAt one t).next).getD k 0 - ((1 + one.nodes.length : Nat) : Int)
  rw [wF hk', wF hk']
  omega
theorem aBN {g : bF} {i k : Nat} : ∀ {j j' : Nat}, j ≤ j' → (jB g T i k j).length ≤ (jB g T i k j').length
 | j, 0, h => by
  obtain rfl : j = 0 := by omega
  exact Af _
 | j, j' + 1, h => by
  by_cases e : j = j' + 1
  ·rw [e]; exact Af _
  ·refine Al (aBN (j := j) (j' := j') (by omega)) ?_
   show _ ≤ (jB g T i k j' ++ _).length
   rw [Ah]
   omega
theorem aBj {g : bF} {i : Nat} : ∀ {k k' : Nat}, k ≤ k' → (lJ g T i k).length ≤ (lJ g T i k').length
 | k, 0, h => by
  obtain rfl : k = 0 := by omega
  exact Af _
 | k, k' + 1, h => by
  by_cases e : k = k' + 1
  ·rw [e]; exact Af _
  ·refine Al (aBj (k := k) (k' := k') (by omega)) ?_
   show _ ≤ (lJ g T i k' ++ _).length
   rw [Ah]
   omega
theorem aAQ {g : bF} : ∀ {i i' : Nat}, i ≤ i' → (iH g T i).length ≤ (iH g T i').length
 | i, 0, h => by
  obtain rfl : i = 0 := by omega
  exact Af _
 | i, i' + 1, h => by
  by_cases e : i = i' + 1
  ·rw [e]; exact Af _
  ·refine Al (aAQ (i := i) (i' := i') (by omega)) ?_
   show _ ≤ (iH g T i' ++ _).length
   rw [Ah]
   omega
theorem aHW (h : rH one) (hc : 2 ≤ c ∧ c ≤ 3) (hT : fK (dG one c seen) = some T) : 1 ≤ (iH (dG one c seen) T (dG one c seen).nodes.length).length := by
 have hok := aGK h hc hT
 have hroot : (nodeAt (dG one c seen) 0).next.length = c := tJ
 refine Al ?_ (aAQ (i := 1) (by rw [mM]; omega))
 show 1 ≤ ([] ++ if (nodeAt (dG one c seen) 0).kind = 1 then lJ (dG one c seen) T 0 (nodeAt (dG one c seen) 0).next.length else []).length
 rw [if_pos (show (nodeAt (dG one c seen) 0).kind = 1 from rfl), Bw]
 refine Al ?_ (aBj (k := 1) (by rw [hroot]; omega))
 show 1 ≤ ([] ++ jB (dG one c seen) T 0 0 (nodeAt (dG one c seen) 0).next.length).length
 rw [Bw]
 refine Al ?_ (aBN (j := 2) (by rw [hroot]; omega))
 rw [aEX (by decide) hok, Ah, Aq]
 omega
end
end Go.Ev.Gl
