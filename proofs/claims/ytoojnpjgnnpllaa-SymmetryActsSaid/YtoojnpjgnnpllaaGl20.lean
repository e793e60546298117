import Derived.Test.YtoojnpjgnnpllaaGl19
open Nat renaming reduceEqDiff → rE, reduceAdd → rA
set_option maxHeartbeats 4000000
set_option linter.unusedSimpArgs false
set_option linter.unusedVariables false
namespace Go.Ev.Gl
variable {fns : T cA}
theorem fY {a b : List Int} : (eS a b).length = a.length := by unfold eS; rw [List.length_map]
structure jA (g : bG) (m : List Int) : Prop where
 M : oB g m
 nd : ¬ aFI m
 A : lL g m
section
variable {g : bG} {a b c m : List Int}
theorem jA.e (h : jA g m) : kT g.nodes.length m (lL g m) = 0 := by
 unfold kT
 rw [if_neg (fun e => e h.M.len), if_neg (fun e => e h.M.inn), if_neg h.nd, if_pos h.A]
theorem jA.chk (h : jA g m) (hf : dF g = 0) : uV g m (lL g m) = 0 := by
 unfold uV
 rw [if_neg (fun e => e hf)]
 exact h.e
theorem jA.inj (h : jA g m) {i k : Nat} (hi : i < g.nodes.length) (hk : k < g.nodes.length) (e : eT m i = eT m k) : i = k := by
 have h1 := (h.M.at hi).1
 have h2 := (h.M.at hk).1
 have hl := h.M.len
 rcases Nat.lt_trichotomy i k with hlt | he | hlt
 ·exact absurd ⟨k, i, hlt, by omega, by omega⟩ h.nd
 ·exact he
 ·exact absurd ⟨i, k, hlt, by omega, by omega⟩ h.nd
theorem mQ (h : oB g a) {i : Nat} (hi : i < g.nodes.length) : eT (eS a b) i = eT b (eT a i) := by
 unfold eT
 rw [jR (by rw [h.len]; exact hi)]
theorem aGX (hl : m.length = g.nodes.length) (h : ∀ i, i < g.nodes.length → 0 ≤ m.getD i 0 ∧ m.getD i 0 < (g.nodes.length : Int)) : oB g m := ⟨hl, fun x hx => by
 obtain ⟨j, hj, rfl⟩ := List.mem_iff_getElem.1 hx
 have := h j (by omega)
 rwa [List.getD_eq_getElem?_getD, List.getElem?_eq_getElem hj] at this⟩
theorem nG (ha : oB g a) (hb : oB g b) : oB g (eS a b) := aGX (by rw [fY]; exact ha.len) fun i hi => by
 rw [jR (by rw [ha.len]; exact hi)]
 have h1 := (ha.at hi).2
 have h2 := hb.at h1
 unfold eT at h1 h2
 omega
theorem aIl {l : List Int} {x : Int} (h : 0 ≤ oW l 0 x) : (oW l 0 x).toNat < l.length ∧ l.getD (oW l 0 x).toNat 0 = x := by
 rcases mK (c := x) (l := l) (s := 0) with ⟨h1, _⟩ | ⟨k, h1, h2, _⟩
 ·omega
 ·have e : (oW l 0 x).toNat = k := by omega
  rw [e]
  exact ⟨(List.getElem?_eq_some_iff.1 h2).1, by rw [List.getD_eq_getElem?_getD, h2]; rfl⟩
theorem aHZ (G : fP g) (ha : oB g a) {i k : Nat} (hi : i < g.nodes.length) (hk : k < (nodeAt g i).next.length) (h0 : 0 ≤ gS g a i k) : gS g (eS a b) i k = gS g b (eT a i) (gS g a i k).toNat ∧ (gS g a i k).toNat < (nodeAt g (eT a i)).next.length := by
 obtain ⟨c1, c2⟩ := G.kids i hi k hk
 obtain ⟨p1, p2⟩ := aIl h0
 refine ⟨?_, p1⟩
 have e2 : (nodeAt g (eT a i)).next.getD (gS g a i k).toNat 0 = a.getD ((nodeAt g i).next.getD k 0).toNat 0 := p2
 unfold gS at e2 ⊢
 rw [mQ ha hi, jR (by rw [ha.len]; omega), e2]
theorem qC (G : fP g) (ha : jA g a) (hb : jA g b) : jA g (eS a b) := by
 have hM := nG ha.M hb.M
 have hk := fun i k (hi : i < g.nodes.length) (hk : k < (nodeAt g i).next.length) => aHZ (b := b) G ha.M hi hk (ha.A.kid i k hi hk)
 have hm := fun i (hi : i < g.nodes.length) => mQ (b := b) ha.M hi
 refine ⟨hM, ?_, ⟨?_, fun i hi => ?_, fun i k hi hki => ?_, fun i k hi hki h1 => ?_, fun i j hi hj h1 h2 he => ?_, fun i j hi hj h1 h2 he => ?_⟩⟩
 ·rintro ⟨i, k, hki, hi, he⟩
  rw [fY, ha.M.len] at hi
  have e1 := (hM.at hi).1
  have e2 := (hM.at (show k < g.nodes.length by omega)).1
  have : eT (eS a b) i = eT (eS a b) k := by omega
  rw [hm i hi, hm k (by omega)] at this
  have := ha.inj hi (by omega) (hb.inj (ha.M.at hi).2 (ha.M.at (show k < g.nodes.length by omega)).2 this)
  omega
 ·rw [jR (by rw [ha.M.len]; exact G.n1), ha.A.root]
  exact hb.A.root
 ·rw [hm i hi]
  obtain ⟨x1, x2, x3, x4⟩ := ha.A.like i hi
  obtain ⟨y1, y2, y3, y4⟩ := hb.A.like _ (ha.M.at hi).2
  exact ⟨x1.trans y1, x2.trans y2, x3.trans y3, x4.trans y4⟩
 ·rw [(hk i k hi hki).1]
  exact hb.A.kid _ _ (ha.M.at hi).2 (hk i k hi hki).2
 ·rw [(hk i k hi hki).1, hm i hi, ha.A.weigh i k hi hki h1]
  exact hb.A.weigh _ _ (ha.M.at hi).2 (hk i k hi hki).2 (by rw [← (ha.A.like i hi).1]; exact h1)
 ·obtain ⟨x1, x2⟩ := ha.A.info i j hi hj h1 h2 he
  have l1 := (ha.A.like i hi).1
  have l2 := (ha.A.like j hj).1
  have hlen : (nodeAt g j).next.length = (nodeAt g i).next.length := by
   have a3 := (G.inf i hi h1).2.2
   have b3 := (G.inf j hj h2).2.2
   rw [← he, a3] at b3
   omega
  obtain ⟨y1, y2⟩ := hb.A.info _ _ (ha.M.at hi).2 (ha.M.at hj).2 (by rw [← l1]; exact h1) (by rw [← l2]; exact h2) x1
  rw [hm i hi, hm j hj]
  refine ⟨y1, fun k hki => ?_⟩
  rw [(hk i k hi hki).1, (hk j k hj (by omega)).1, ← x2 k hki]
  exact y2 _ (hk i k hi hki).2
 ·rw [hm i hi, hm j hj] at he
  have l1 := (ha.A.like i hi).1
  have l2 := (ha.A.like j hj).1
  exact ha.A.inj i j hi hj h1 h2 (hb.A.inj _ _ (ha.M.at hi).2 (ha.M.at hj).2 (by rw [← l1]; exact h1) (by rw [← l2]; exact h2) he)
theorem aHd {k : Nat} {x : Int} : ∀ (l : List Int) (s : Nat) (r : List Int), l[k]? = some x → (∀ j d, k < j → l[j]? = some d → d.toNat ≠ x.toNat) → x.toNat < r.length → (sL l s r).getD x.toNat 0 = ((s + k : Nat) : Int) := by
 induction k with
 | zero =>
  intro l s r h hn hr
  cases l with
  | nil => cases h
  | cons y l =>
   cases h
   show (sL l (s + 1) (r.set x.toNat (s : Int))).getD x.toNat 0 = _
   rw [yJ l (s + 1) _ fun d hd => by
    obtain ⟨j, hj, rfl⟩ := List.mem_iff_getElem.1 hd
    exact hn (j + 1) l[j] (by omega) (by rw [List.getElem?_cons_succ, List.getElem?_eq_getElem hj])]
   rw [iD hr, if_pos rfl]
   rfl
 | succ k ih =>
  intro l s r h hn hr
  cases l with
  | nil => cases h
  | cons y l =>
   show (sL l (s + 1) (r.set y.toNat (s : Int))).getD x.toNat 0 = _
   rw [ih l (s + 1) _ h (fun j d hj hd => hn (j + 1) d (by omega) (by rw [List.getElem?_cons_succ]; exact hd)) (by rw [List.length_set]; exact hr)]
   congr 1
   omega
theorem aEr (h : jA g m) {i : Nat} (hi : i < g.nodes.length) : (aBf m).getD (eT m i) 0 = (i : Int) := by
 obtain ⟨e1, e2⟩ := h.M.at hi
 have hl := h.M.len
 have hget : ∀ j, j < g.nodes.length → m[j]? = some (((eT m j : Nat)) : Int) := fun j hj => by
  rw [← (h.M.at hj).1, List.getD_eq_getElem?_getD, List.getElem?_eq_getElem (by omega)]; rfl
 have := aHd (k := i) (x := ((eT m i : Nat) : Int)) m 0 (List.replicate m.length 0) (hget i hi) (fun j d hj hd he => by
  have hjl : j < g.nodes.length := by have := (List.getElem?_eq_some_iff.1 hd).1; omega
  rw [hget j hjl] at hd
  cases hd
  rw [Int.toNat_natCast, Int.toNat_natCast] at he
  have := h.inj hjl hi he
  omega) (by rw [Int.toNat_natCast, List.length_replicate]; omega)
 rw [Int.toNat_natCast, Nat.zero_add] at this
 exact this
def aAj (g : bG) (m : List Int) : Prop := ∀ i, i < g.nodes.length → eT m (eT m i) = i
theorem aG3 (ha : a.length = g.nodes.length) (hb : oB g b) (h : ∀ i, i < g.nodes.length → a.getD i 0 = ((eT b i : Nat) : Int)) : a = b :=
 uI (by rw [ha, hb.len]) fun j hj => by rw [h j (by omega), ← (hb.at (by omega)).1]
theorem aI4 (h : jA g m) (h2 : aAj g m) : aBf m = m := aG3 (g := g) (by rw [aFz, h.M.len]) h.M fun i hi => by
 have := aEr h (h.M.at hi).2
 rwa [h2 i hi] at this
theorem aHb (G : fP g) (ha : jA g a) (hb : jA g b) (a2 : aAj g a) (b2 : aAj g b) : aBf (eS a b) = eS b a := aG3 (g := g) (by rw [aFz, fY, ha.M.len]) (nG hb.M ha.M) fun i hi => by
 have hi' := (hb.M.at hi).2
 have hj : eT (eS b a) i < g.nodes.length := ((nG hb.M ha.M).at hi).2
 have := aEr (qC G ha hb) hj
 rw [mQ ha.M hj, mQ hb.M hi, a2 _ hi', b2 i hi] at this
 rw [mQ hb.M hi]
 exact this
theorem aGa (ha : oB g a) (hb : oB g b) : eS (eS a b) c = eS a (eS b c) := uI (by rw [fY, fY, fY]) fun j hj => by
 rw [fY, fY, ha.len] at hj
 have h1 := ha.at hj
 rw [jR (by rw [fY, ha.len]; exact hj), jR (by rw [ha.len]; exact hj), jR (by rw [ha.len]; exact hj), h1.1, Int.toNat_natCast, jR (by rw [hb.len]; exact h1.2)]
theorem aJd (ha : oB g a) (hb : oB g b) (a2 : aAj g a) (b2 : aAj g b) {k : Nat} (hk : k < g.nodes.length) : (eS (eS a b) (eS b a)).getD k 0 = (k : Int) := by
 have hab := nG ha hb
 have hba := nG hb ha
 have h1 := (nG hab hba).at hk
 rw [h1.1, mQ hab hk, mQ ha hk, mQ hb (hb.at (ha.at hk).2).2, b2 _ (ha.at hk).2, a2 k hk]
end
end Go.Ev.Gl
namespace Go.Ev.Gl
variable {fns : T cA}
def mS (j : Int) : List cK → Nat → Nat
 | [], _ => 0
 | t :: L, a => (if t.1 = j then (t.2.2 + 1 - (a : Int)).toNat else 0) + mS j L (a + 1)
theorem uA {j : Int} : ∀ {L M : List cK} {a : Nat}, mS j (L ++ M) a = mS j L a + mS j M (a + L.length)
 | [], M, a => by show mS j M a = 0 + mS j M (a + 0); rw [Nat.zero_add]; rfl
 | t :: L, M, a => by
  show _ + mS j (L ++ M) (a + 1) = _ + mS j L (a + 1) + mS j M (a + (L.length + 1))
  rw [uA (L := L), show a + 1 + L.length = a + (L.length + 1) by omega, Nat.add_assoc]
theorem pO {j : Int} : ∀ {L : List cK} {a : Nat}, (∀ t ∈ L, t.1 ≠ j) → mS j L a = 0
 | [], _, _ => rfl
 | t :: L, a, h => by
  show (if t.1 = j then _ else 0) + mS j L (a + 1) = 0
  rw [if_neg (h t (List.mem_cons_self ..)), pO fun t ht => h t (List.mem_cons_of_mem _ ht)]
structure KZ (r : Nat) (p : Int) (L : List cK) : Prop where
 par : ∀ t ∈ L, t.1 = p ∨ ((r : Int) ≤ t.1 ∧ t.1 < ((r + L.length : Nat) : Int))
 sz : ∀ (j : Nat) (t : cK), L[j]? = some t → t.2.2 = ((r + j + mS ((r + j : Nat) : Int) L r : Nat) : Int) ∧ t.2.2 < ((r + L.length : Nat) : Int)
 all : mS p L r = L.length
 nest : ∀ (j q : Nat) (t u : cK), L[j]? = some t → L[q]? = some u → j < q → ((r + q : Nat) : Int) ≤ t.2.2 → ((r + j : Nat) : Int) ≤ u.1
theorem KZ.nil {r : Nat} {p : Int} : KZ r p [] := ⟨fun t ht => (by cases ht), fun j t h => (by simp at h), rfl, fun j q t u h => (by simp at h)⟩
theorem KZ.app {r : Nat} {p : Int} {L M : List cK} (hp : p < (r : Int)) (h1 : KZ r p L) (h2 : KZ (r + L.length) p M) : KZ r p (L ++ M) := by
 refine ⟨fun t ht => ?_, fun j t hj => ?_, by rw [uA, h1.all, h2.all, List.length_append], fun j q t u hj hq hlt hle => ?_⟩
 ·rw [List.length_append]
  rcases List.mem_append.1 ht with h | h
  ·rcases h1.par t h with e | e
   ·exact .inl e
   ·exact .inr (by omega)
  ·rcases h2.par t h with e | e
   ·exact .inl e
   ·exact .inr (by omega)
 ·rw [List.length_append, uA]
  by_cases hlt : j < L.length
  ·rw [List.getElem?_append_left hlt] at hj
   obtain ⟨a, b⟩ := h1.sz j t hj
   rw [pO (L := M) fun t ht => by
    rcases h2.par t ht with e | e
    ·omega
    ·omega, Nat.add_zero]
   exact ⟨a, by omega⟩
  ·rw [List.getElem?_append_right (by omega)] at hj
   obtain ⟨a, b⟩ := h2.sz (j - L.length) t hj
   rw [show r + L.length + (j - L.length) = r + j by omega] at a
   rw [pO (L := L) fun t ht => by
    rcases h1.par t ht with e | e
    ·omega
    ·omega, Nat.zero_add]
   exact ⟨a, by omega⟩
 ·by_cases hj1 : j < L.length
  ·rw [List.getElem?_append_left hj1] at hj
   have := (h1.sz j t hj).2
   rw [List.getElem?_append_left (by omega)] at hq
   exact h1.nest j q t u hj hq hlt hle
  ·rw [List.getElem?_append_right (by omega)] at hj hq
   have := h2.nest _ _ t u hj hq (by omega) (by rw [show r + L.length + (q - L.length) = r + q by omega]; exact hle)
   rwa [show r + L.length + (j - L.length) = r + j by omega] at this
theorem aGB {rec : Nat → Option (List cK)} {p : Int} (hr : ∀ (r : Nat) (L : List cK), p < (r : Int) → rec r = some L → KZ r p L) : ∀ {l : List Int} {r : Nat} {L : List cK}, p < (r : Int) → fF rec l r = some L → KZ r p L
 | [], r, L, _, h => by
  have h : some [] = some L := h
  cases h
  exact KZ.nil
 | c :: l, r, L, hp, h => by
  simp only [fF] at h
  split at h
  ·obtain ⟨L1, h1, h2⟩ := Option.bind_eq_some_iff.1 h
   obtain ⟨L2, h3, rfl⟩ := Option.map_eq_some_iff.1 h2
   exact (hr r L1 hp h1).app hp (aGB hr (by omega) h3)
  ·cases h
theorem aDE {N : Nat} {nx : Nat → List Int} : ∀ {f at_ : Nat} {p d : Int} {T : List cK}, p < (at_ : Int) → eR N nx f at_ p d = some T → KZ at_ p T
 | 0, _, _, _, _, _, h => by cases h
 | f + 1, at_, p, d, T, hp, h => by
  simp only [eR] at h
  split at h
  ·obtain ⟨L, h1, rfl⟩ := Option.map_eq_some_iff.1 h
   have k := aGB (p := (at_ : Int)) (fun r L hr hL => aDE hr hL) (by omega) h1
   refine ⟨fun t ht => ?_, fun j t hj => ?_, ?_, fun j q t u hj hq hlt hle => ?_⟩
   ·rw [List.length_cons]
    rcases List.mem_cons.1 ht with rfl | ht
    ·exact .inl rfl
    ·rcases k.par t ht with e | e
     ·exact .inr (by omega)
     ·exact .inr (by omega)
   ·rw [List.length_cons]
    cases j with
    | zero =>
     cases hj
     rw [Nat.add_zero]
     show ((at_ + L.length : Nat) : Int) = ((at_ + ((if p = ((at_ : Nat) : Int) then _ else 0) + mS _ L (at_ + 1)) : Nat) : Int) ∧ _
     rw [if_neg (by omega), Nat.zero_add, k.all]
     exact ⟨rfl, by show ((at_ + L.length : Nat) : Int) < _; omega⟩
    | succ j =>
     obtain ⟨a, b⟩ := k.sz j t hj
     show t.2.2 = ((at_ + (j + 1) + ((if p = ((at_ + (j + 1) : Nat) : Int) then _ else 0) + mS _ L (at_ + 1)) : Nat) : Int) ∧ _
     rw [if_neg (by omega), Nat.zero_add, a, show at_ + 1 + j = at_ + (j + 1) by omega]
     exact ⟨rfl, by rw [← show at_ + 1 + j = at_ + (j + 1) by omega, ← a]; omega⟩
   ·show (if p = p then (((at_ + L.length : Nat) : Int) + 1 - (at_ : Int)).toNat else 0) + mS p L (at_ + 1) = L.length + 1
    rw [if_pos rfl, pO fun t ht => by
     rcases k.par t ht with e | e
     ·omega
     ·omega]
    omega
   ·obtain ⟨q, rfl⟩ : ∃ q', q = q' + 1 := ⟨q - 1, by omega⟩
    cases j with
    | zero =>
     have hq' : L[q]? = some u := hq
     rcases k.par u (List.mem_of_getElem? hq') with e | e
     ·omega
     ·omega
    | succ j =>
     have hj' : L[j]? = some t := hj
     have hq' : L[q]? = some u := hq
     have := k.nest j q t u hj' hq' (by omega) (by rw [show at_ + 1 + q = at_ + (q + 1) by omega]; exact hle)
     rwa [show at_ + 1 + j = at_ + (j + 1) by omega] at this
  ·cases h
def fR (T : List cK) (i : Nat) : Nat := match T[i]? with | some t => (t.2.2 + 1 - (i : Int)).toNat | none => 0
section
variable {T : List cK}
theorem aEg (k : KZ 0 (-1) T) {i : Nat} (hi : i < T.length) : fR T i = 1 + mS (i : Int) T 0 ∧ fR T i ≤ T.length ∧ i + fR T i ≤ T.length := by
 obtain ⟨a, b⟩ := k.sz i T[i] (List.getElem?_eq_getElem hi)
 have e : fR T i = (T[i].2.2 + 1 - (i : Int)).toNat := by unfold fR; rw [List.getElem?_eq_getElem hi]
 rw [Nat.zero_add] at a b
 omega
def SzI (T : List cK) (i : Nat) (Z : List Int) : Prop := Z.length = T.length ∧ ∀ j, j < T.length → Z.getD j 0 = if i ≤ j then ((fR T j : Nat) : Int) else ((mS (j : Int) (T.drop i) i : Nat) : Int)
theorem aLs (k : KZ 0 (-1) T) (hN : T.length ≤ 100000) (hpar : ∀ (j : Nat) (t : cK), T[j]? = some t → t.1 < (j : Int) ∧ (0 < j → 0 ≤ t.1)) {i : Nat} {Z : List Int} (hi : i < T.length) (h : SzI T (i + 1) Z) : SzI T i (szS T i Z) := by
 obtain ⟨hl, hz⟩ := h
 have hT := List.getElem?_eq_getElem hi
 obtain ⟨p1, p2⟩ := hpar i T[i] hT
 have hdrop : T.drop i = T[i] :: T.drop (i + 1) := List.drop_eq_getElem_cons hi
 have hsp := fun j : Nat => show mS (j : Int) (T.drop i) i = (if T[i].1 = (j : Int) then fR T i else 0) + mS (j : Int) (T.drop (i + 1)) (i + 1) by
  rw [hdrop]
  have e : fR T i = (T[i].2.2 + 1 - (i : Int)).toNat := by unfold fR; rw [hT]
  rw [e]
  rfl
 have htk : ∀ j, i ≤ j → mS (j : Int) T 0 = mS (j : Int) (T.drop (i + 1)) (i + 1) := fun j hij => by
  conv => lhs; rw [← List.take_append_drop (i + 1) T]
  rw [uA, List.length_take, show min (i + 1) T.length = i + 1 by omega, Nat.zero_add, pO (L := T.take (i + 1)), Nat.zero_add]
  intro t ht
  obtain ⟨q, hq, rfl⟩ := List.mem_iff_getElem.1 ht
  rw [List.length_take] at hq
  rw [List.getElem_take]
  have := (hpar q T[q] (List.getElem?_eq_getElem (by omega))).1
  omega
 have e1 := aEg k hi
 rw [htk i (Nat.le_refl _)] at e1
 have hzi := hz i hi
 rw [if_neg (by omega)] at hzi
 have hw : IntKind.i64.wrap (Z.getD i 0 + 1) = ((fR T i : Nat) : Int) := by rw [hzi, wrap_i64 (by omega) (by omega)]; omega
 unfold szS
 rw [hw]
 have hset : ∀ j, (Z.set i ((fR T i : Nat) : Int)).getD j 0 = if j = i then ((fR T i : Nat) : Int) else Z.getD j 0 := fun j => iD (by omega)
 by_cases h0 : 0 < i
 ·rw [if_pos h0]
  obtain ⟨q, hq⟩ : ∃ q : Nat, T[i].1 = (q : Int) := ⟨T[i].1.toNat, by have := p2 h0; omega⟩
  have hqi : q < i := by omega
  have hpm : (T.map fun t : cK => t.1).getD i 0 = (q : Int) := by rw [List.getD_eq_getElem?_getD, List.getElem?_map, hT, ← hq]; rfl
  rw [hpm, Int.toNat_natCast, hset q, if_neg (by omega), hset i, if_pos rfl]
  have hzq := hz q (by omega)
  rw [if_neg (by omega)] at hzq
  have hb : mS (q : Int) (T.drop i) i ≤ T.length := by
   have e2 := aEg k (show q < T.length by omega)
   have : mS (q : Int) (T.drop i) i ≤ mS (q : Int) T 0 := by
    conv => rhs; rw [← List.take_append_drop i T]
    rw [uA, List.length_take, show min i T.length = i by omega, Nat.zero_add]
    omega
   omega
  have hsq := hsp q
  rw [if_pos hq] at hsq
  have hw2 : IntKind.i64.wrap (Z.getD q 0 + ((fR T i : Nat) : Int)) = ((mS (q : Int) (T.drop i) i : Nat) : Int) := by rw [hzq, wrap_i64 (by omega) (by omega)]; omega
  rw [hw2]
  refine ⟨by rw [List.length_set, List.length_set]; exact hl, fun j hj => ?_⟩
  rw [iD (by rw [List.length_set]; omega), hset j]
  by_cases ej : j = q
  ·rw [if_pos ej, if_neg (by omega), ej]
  ·rw [if_neg ej]
   by_cases eji : j = i
   ·rw [if_pos eji, if_pos (by omega), eji]
   ·rw [if_neg eji, hz j hj]
    by_cases hij : i ≤ j
    ·rw [if_pos (by omega), if_pos hij]
    ·rw [if_neg (by omega), if_neg hij, hsp j, if_neg (by omega), Nat.zero_add]
 ·rw [if_neg h0]
  refine ⟨by rw [List.length_set]; exact hl, fun j hj => ?_⟩
  rw [hset j]
  by_cases eji : j = i
  ·rw [if_pos eji, if_pos (by omega), eji]
  ·rw [if_neg eji, hz j hj, if_pos (by omega), if_pos (by omega)]
theorem aIQ (k : KZ 0 (-1) T) (hN : T.length ≤ 100000) (hpar : ∀ (j : Nat) (t : cK), T[j]? = some t → t.1 < (j : Int) ∧ (0 < j → 0 ≤ t.1)) : ∀ {i : Nat} {Z : List Int}, i ≤ T.length → SzI T i Z → SzI T 0 (szG T i Z)
 | 0, Z, _, h => h
 | i + 1, Z, hi, h => aIQ k hN hpar (i := i) (Z := szS T i Z) (by omega) (aLs k hN hpar (by omega) h)
theorem aAV {g : bG} (hT : iC g = some T) (hl : T.length = g.nodes.length) (hN : g.nodes.length ≤ 100000) {i : Nat} (hi : i < g.nodes.length) : (szL T g.nodes.length).getD i 0 = ((fR T i : Nat) : Int) ∧ 1 ≤ fR T i ∧ i + fR T i ≤ g.nodes.length := by
 have hw : eR g.nodes.length (dP g) (g.nodes.length + 1) 0 (-1) 0 = some T := hT
 have k := aDE (by decide) hw
 have hf := mF hw
 have hpar : ∀ (j : Nat) (t : cK), T[j]? = some t → t.1 < (j : Int) ∧ (0 < j → 0 ≤ t.1) := fun j t hj => by
  have hlt := (List.getElem?_eq_some_iff.1 hj).1
  rcases Nat.eq_zero_or_pos j with h0 | h0
  ·subst h0
   have := hf.root
   unfold jD at this
   rw [hj] at this
   have e : t.1 = -1 := Option.some.inj this
   exact ⟨by omega, fun h => absurd h (Nat.lt_irrefl 0)⟩
  ·obtain ⟨q, a, b, _⟩ := hf.pf j h0 hlt
   unfold jD at b
   rw [hj] at b
   have e : t.1 = ((0 + q : Nat) : Int) := Option.some.inj b
   exact ⟨by omega, fun _ => by omega⟩
 have h0 : SzI T T.length (List.replicate g.nodes.length 0) := ⟨by rw [List.length_replicate, hl], fun j hj => by
  rw [if_neg (by omega), List.drop_of_length_le (Nat.le_refl _), aHU (by omega)]
  rfl⟩
 have h1 := (aIQ k (by omega) hpar (Nat.le_refl _) h0).2 i (by omega)
 rw [if_pos (Nat.zero_le _), hl] at h1
 obtain ⟨e1, e2, e3⟩ := aEg k (show i < T.length by omega)
 exact ⟨h1, by omega, by omega⟩
theorem aFS {g : bG} (hT : iC g = some T) (hl : T.length = g.nodes.length) {i p q : Nat} (hi : i < g.nodes.length) (hpq : p < q) (hq : q < (nodeAt g i).next.length) (hN : g.nodes.length ≤ 100000) : ((nodeAt g i).next.getD p 0).toNat + fR T ((nodeAt g i).next.getD p 0).toNat ≤ ((nodeAt g i).next.getD q 0).toNat := by
 have hw : eR g.nodes.length (dP g) (g.nodes.length + 1) 0 (-1) 0 = some T := hT
 have k := aDE (by decide) hw
 have hf := mF hw
 have hnx : dP g (0 + i) = (nodeAt g i).next := by rw [Nat.zero_add]; exact iE g i
 have mem := fun t (ht : t < (nodeAt g i).next.length) => show (nodeAt g i).next.getD t 0 ∈ dP g (0 + i) by
  rw [hnx, List.getD_eq_getElem?_getD, List.getElem?_eq_getElem ht]; exact List.getElem_mem ht
 have hinc := hf.inc i (by omega)
 rw [hnx] at hinc
 have hlt : (nodeAt g i).next.getD p 0 < (nodeAt g i).next.getD q 0 := by
  have := List.pairwise_iff_getElem.1 hinc p q (by omega) hq hpq
  rw [List.getD_eq_getElem?_getD, List.getElem?_eq_getElem (show p < (nodeAt g i).next.length by omega), List.getD_eq_getElem?_getD, List.getElem?_eq_getElem hq]
  exact this
 obtain ⟨a1, a2, a3⟩ := hf.cf i (by omega) _ (mem p (by omega))
 obtain ⟨b1, b2, b3⟩ := hf.cf i (by omega) _ (mem q hq)
 obtain ⟨x, hx⟩ : ∃ x : Nat, (nodeAt g i).next.getD p 0 = (x : Int) := ⟨_, (Int.toNat_of_nonneg (by omega)).symm⟩
 obtain ⟨y, hy⟩ : ∃ y : Nat, (nodeAt g i).next.getD q 0 = (y : Int) := ⟨_, (Int.toNat_of_nonneg (by omega)).symm⟩
 rw [hx] at a1 a2 a3 hlt
 rw [hy] at b1 b2 b3 hlt
 rw [hx, hy, Int.toNat_natCast, Int.toNat_natCast]
 have hxT : T[x]? = some T[x] := List.getElem?_eq_getElem (by omega)
 have hyT : T[y]? = some T[y] := List.getElem?_eq_getElem (by omega)
 have hpar : T[y].1 = (i : Int) := by
  unfold jD at b3
  rw [Int.toNat_natCast, Nat.sub_zero, hyT] at b3
  have e : T[y].1 = ((0 + i : Nat) : Int) := Option.some.inj b3
  omega
 have e : fR T x = (T[x].2.2 + 1 - (x : Int)).toNat := by unfold fR; rw [hxT]
 rw [e]
 rcases Int.lt_or_le T[x].2.2 (y : Int) with h | h
 ·omega
 ·have := k.nest x y _ _ hxT hyT (by omega) (by rw [Nat.zero_add]; exact h)
  omega
end
end Go.Ev.Gl
namespace Go.Ev.Gl
variable {fns : T cA}
def idL (n : Nat) : List Int := (List.range n).map fun j : Nat => (j : Int)
theorem nK {n j : Nat} {f : Nat → Int} (h : j < n) : ((List.range n).map f).getD j 0 = f j := by
 rw [List.getD_eq_getElem?_getD, List.getElem?_map, List.getElem?_range h]
 rfl
theorem aC6 {n : Nat} {f : Nat → Int} {l : List Int} (hl : l.length = n) (h : ∀ j, j < n → l.getD j 0 = f j) : l = (List.range n).map f :=
 uI (by rw [hl, List.length_map, List.length_range]) fun j hj => by rw [h j (by omega), nK (by omega)]
def swF (a b n j : Nat) : Nat := if a ≤ j ∧ j < a + n then j - a + b else if b ≤ j ∧ j < b + n then j - b + a else j
def yU (N a b n : Nat) : List Int := (List.range N).map fun j : Nat => ((swF a b n j : Nat) : Int)
set_option maxHeartbeats 2000000 in
theorem aCJ {S : St} {wb : Nat} {nv iv pv plv szv : AV} {g : bG} (H : Has fns) (hW : qF S wb g.players nv iv pv plv szv) (hn : aQ 6 cO S nv g.nodes) (hN : g.nodes.length ≤ 100000) : iQ fns (.fn 154 [] []) [.ptr wb 0] S fun r S' => aAv S S' r (idL g.nodes.length) ∧ Same S S' := by
 refine cW H.f154 (by simp) ?_
 simp only [↓aJ,aH,rE,↓reduceIte, rA]
 refine cI ?_
 simp only [↓aJ,aH,rE,↓reduceIte, rA]
 refine cI ?_
 simp only [↓aJ,aH,rE,↓reduceIte, rA, aS, aT, aB, aA, eQ hW.1, hn.len]
 refine kH (tA (n := g.nodes.length) (by simp only [↓aJ,aH,rE,↓reduceIte, rA, aL]) (by simp only [↓aJ,aH,rE,↓reduceIte, rA, aL]) (by unfold room; omega) (by unfold room; omega)) ?_
 intro S1 s1 n1 c1
 rw [xT] at c1
 simp only [↓aJ,aH,rE,↓reduceIte, rA]
 generalize g.nodes.length = n at *
 refine aE (bP (Q := fun o A' X => o = .normal ∧ aDd S S.nx n (fun j => (j : Int)) (fun F i => aC 3 F = .sl S.nx 0 n n false ∧ aC 13 F = .int .i64 (n : Int) ∧ aC 14 F = .int .i64 (i : Int)) 0 A' X) (aE (aR ?_)) ?_)
 ·have e0 : mB (.sl S.nx 0 n n false) = some (.int .i64 (n : Int)) := rfl
  simp only [↓aJ,aH,rE,↓reduceIte, rA, e0]
  refine bE (cS (aDd S S.nx n (fun j => (j : Int)) (fun F i => aC 3 F = .sl S.nx 0 n n false ∧ aC 13 F = .int .i64 (n : Int) ∧ aC 14 F = .int .i64 (i : Int))) ?_ n _ _ ⟨rfl, s1, by omega, 0, _, by omega, List.length_replicate .., fun j hj => by omega, c1, by simp only [↓aJ,aH,rE,↓reduceIte, rA], by simp only [↓aJ,aH,rE,↓reduceIte, rA], by simp only [↓aJ,aH,rE,↓reduceIte, rA]; try rfl⟩)
  rintro k ⟨F, inr⟩ X ⟨q0, hX, hb, i, l, hik, hl, hf, hc, p3, p8, p9⟩
  simp only at q0 p3 p8 p9
  subst q0
  refine cI ?_
  simp only [↓aJ,aH,rE,↓reduceIte, rA, p8, p9]
  by_cases hlt : i < n
  ·refine aE (bB (by simp only [↓aJ,aH,rE,↓reduceIte, rA, decide_eq_true (show (i : Int) < (n : Int) by omega)]) (aO ?_))
   try simp only [↓aJ,aH,rE,↓reduceIte, rA]
   have w1 : IntKind.i64.wrap ((i : Int) + 1) = ((i + 1 : Nat) : Int) := by rw [wrap_i64 (by omega) (by omega)]; omega
   have hia := gN (b := S.nx) (o := false) hlt
   refine aE (bE (aE (aR ?_)))
   simp only [↓aJ,aH,rE,↓reduceIte, rA, p9]
   refine aR ?_
   simp only [↓aJ,aH,rE,↓reduceIte, rA, p3, aL, hia]
   refine fZ (fun call => by simp only [↓aJ,aH,rE,↓reduceIte, rA, dT, cV]; exact aAd (S := X) hc (by rw [hl]; exact hlt)) ?_
   simp only [↓aJ,aH,rE,↓reduceIte, rA]
   refine aR ?_
   simp only [↓aJ,aH,rE,↓reduceIte, rA, p9, w1]
   refine ⟨k - 1, by omega, rfl, hX.put (Nat.le_refl _) _, hb, i + 1, l.set i (i : Int), by omega, by rw [List.length_set]; exact hl, fun j hj => ?_, by simp only; rw [T.get_set, if_pos rfl], by simp only [↓aJ,aH,rE,↓reduceIte, rA, p3], by simp only [↓aJ,aH,rE,↓reduceIte, rA, p8], by simp only [↓aJ,aH,rE,↓reduceIte, rA]⟩
   rw [iD (by rw [hl]; exact hlt)]
   split
   ·rename_i e; rw [e]
   ·exact hf j (by omega)
  ·refine aE (aX (by simp only [↓aJ,aH,rE,↓reduceIte, rA, decide_eq_false (show ¬ (i : Int) < (n : Int) by omega)]) (cL ?_))
   simp only [↓aJ,aH,rE,↓reduceIte, rA]
   have hk0 : k = 0 := by omega
   subst hk0
   exact ⟨rfl, hX, hb, i, l, hik, hl, hf, hc, by simp only [↓aJ,aH,rE,↓reduceIte, rA, p3], by simp only [↓aJ,aH,rE,↓reduceIte, rA, p8], by simp only [↓aJ,aH,rE,↓reduceIte, rA, p9]⟩
 rintro o ⟨F, inr⟩ X ⟨rfl, q0, hX, hb, i, l, hik, hl, hf, hc, p3, p8, p9⟩
 simp only at q0 p3
 subst q0
 obtain rfl : i = n := by omega
 obtain rfl : l = idL i := aC6 hl hf
 try simp only [↓aJ,aH,rE,↓reduceIte, rA]
 refine cI ?_
 simp only [↓aJ,aH,rE,↓reduceIte, rA, p3]
 refine aY ?_
 simp only [↓aJ,aH,rE,↓reduceIte, rA]
 exact ⟨⟨S.nx, by rw [hl], Nat.le_refl _, hb, hc⟩, hX⟩
def aMp (S1 : St) (wb rb N a b n : Nat) (k : Nat) (A : bT) (X : St) : Prop := A.inr = false ∧ Same S1 X ∧ rb < X.nx ∧ ∃ (t : Nat) (l : List Int), t + k = n ∧ l.length = N ∧ (∀ j, j < N → l.getD j 0 = ((swF a b t j : Nat) : Int)) ∧ X.h.get rb = some (.cells (bD l) false 0) ∧ aC 1 A.F = .int .i64 (a : Int) ∧ aC 2 A.F = .int .i64 (b : Int) ∧ aC 7 A.F = .sl rb 0 N N false ∧ aC 17 A.F = .int .i64 (n : Int) ∧ aC 18 A.F = .int .i64 (t : Int)
set_option maxHeartbeats 4000000 in
theorem aHG {S : St} {wb plb szb a b n : Nat} {nv iv pv : AV} {g : bG} {R Z : List Int} (H : Has fns) (hB : gT S wb plb szb pv nv iv g R Z) (hn : aQ 6 cO S nv g.nodes) (hN : g.nodes.length ≤ 100000) (hz : Z.getD a 0 = (n : Int)) (hab : a + n ≤ b) (hbn : b + n ≤ g.nodes.length) (ha : a < g.nodes.length) : iQ fns (.fn 115 [] []) [.ptr wb 0, .int .i64 (a : Int), .int .i64 (b : Int)] S fun r S' => aAv S S' r (yU g.nodes.length a b n) ∧ Same S S' := by
 refine cW H.f115 (by simp) ?_
 simp only [↓sU,sD,rE,↓reduceIte,rA]
 refine cI ?_
 simp only [↓sU,sD,rE,↓reduceIte,rA]
 refine cI ?_
 simp only [↓sU,sD,rE,↓reduceIte,rA]
 refine bL ?_
 simp only [↓sU,sD,rE,↓reduceIte,rA]
 refine aW (aCJ H hB.w hn hN) ?_
 rintro r S1 ⟨⟨rb, rfl, r1, r2, r3⟩, s1⟩
 try simp only [↓sU,sD,rE,↓reduceIte,rA]
 have hlen : (idL g.nodes.length).length = g.nodes.length := by unfold idL; rw [List.length_map, List.length_range]
 rw [hlen]
 have hW1 := hB.w.same s1
 have gz1 := (s1.2 _ hB.bz).trans hB.gz
 have hia := gN (b := szb) (o := false) ha
 have hla := aFJ gz1 (p := a) (by rw [hB.lz]; exact ha)
 rw [hz] at hla
 refine kK ?_
 simp only [↓sU,sD,rE,↓reduceIte,rA, aS, aT, aB, aA, gK hW1.1, aL, hia, hla]
 refine bP (Q := fun o A' X => o = .normal ∧ aMp S wb rb g.nodes.length a b n 0 A' X) (bE (cS (aMp S wb rb g.nodes.length a b n) ?_ n _ _ ⟨rfl, s1, r2, 0, _, by omega, hlen, fun j hj => by unfold idL swF; rw [nK hj, if_neg (by omega), if_neg (by omega)], r3, by simp only [↓sU,sD,rE,↓reduceIte,rA], by simp only [↓sU,sD,rE,↓reduceIte,rA], by simp only [↓sU,sD,rE,↓reduceIte,rA], by simp only [↓sU,sD,rE,↓reduceIte,rA], by simp only [↓sU,sD,rE,↓reduceIte,rA]; try rfl⟩)) ?_
 rotate_left
 ·rintro o ⟨F, inr⟩ X ⟨rfl, q0, sX, hb, t, l, htk, hl, hf, gX, p1, p2, p7, p17, p18⟩
  simp only at q0 p7
  subst q0
  obtain rfl : t = n := by omega
  obtain rfl : l = yU g.nodes.length a b t := aC6 hl hf
  try simp only [↓sU,sD,rE,↓reduceIte,rA]
  refine cI ?_
  simp only [↓sU,sD,rE,↓reduceIte,rA, p7]
  refine aY ?_
  simp only [↓sU,sD,rE,↓reduceIte,rA]
  exact ⟨⟨rb, by rw [hl], r1, hb, gX⟩, sX⟩
 clear hla hia gz1 hW1 r3 r2 s1
 rintro k ⟨F, inr⟩ X ⟨q0, sX, hb, t, l, htk, hl, hf, gX, p1, p2, p7, p17, p18⟩
 simp only at q0 p1 p2 p7 p17 p18
 subst q0
 refine cI ?_
 simp only [↓sU,sD,rE,↓reduceIte,rA, p17, p18]
 by_cases hlt : t < n
 rotate_left
 ·refine aE (aX (by simp only [↓sU,sD,rE,↓reduceIte,rA, decide_eq_false (show ¬ (t : Int) < (n : Int) by omega)]) (cL ?_))
  simp only [↓sU,sD,rE,↓reduceIte,rA]
  obtain rfl : k = 0 := by omega
  exact ⟨rfl, sX, hb, t, l, htk, hl, hf, gX, by simp only [↓sU,sD,rE,↓reduceIte,rA, p1], by simp only [↓sU,sD,rE,↓reduceIte,rA, p2], by simp only [↓sU,sD,rE,↓reduceIte,rA, p7], by simp only [↓sU,sD,rE,↓reduceIte,rA, p17], by simp only [↓sU,sD,rE,↓reduceIte,rA, p18]⟩
 refine aE (bB (by simp only [↓sU,sD,rE,↓reduceIte,rA, decide_eq_true (show (t : Int) < (n : Int) by omega)]) (aO ?_))
 try simp only [↓sU,sD,rE,↓reduceIte,rA]
 have w1 : IntKind.i64.wrap ((t : Int) + 1) = ((t + 1 : Nat) : Int) := by rw [wrap_i64 (by omega) (by omega)]; omega
 have wa : IntKind.i64.wrap ((a : Int) + (t : Int)) = ((a + t : Nat) : Int) := by rw [wrap_i64 (by omega) (by omega)]; omega
 have wb' : IntKind.i64.wrap ((b : Int) + (t : Int)) = ((b + t : Nat) : Int) := by rw [wrap_i64 (by omega) (by omega)]; omega
 have ia := gN (b := rb) (N := g.nodes.length) (o := false) (show a + t < g.nodes.length by omega)
 have ib := gN (b := rb) (N := g.nodes.length) (o := false) (show b + t < g.nodes.length by omega)
 refine aE (bE (aE (aR ?_)))
 simp only [↓sU,sD,rE,↓reduceIte,rA, p18]
 refine aR ?_
 simp only [↓sU,sD,rE,↓reduceIte,rA, p1, p2, p7, aL, wa, wb', ia]
 refine fZ (v := .undef) (S1 := ⟨X.h.set rb (some (.cells (bD (l.set (a + t) ((b + t : Nat) : Int))) false 0)), X.nx⟩) (fun call => by simp only [↓sU,sD,rE,↓reduceIte,rA, dT, cV]; exact aAd gX (by omega)) ?_
 simp only [↓sU,sD,rE,↓reduceIte,rA, aL, ib]
 refine fZ (v := .undef) (S1 := ⟨(X.h.set rb (some (.cells (bD (l.set (a + t) ((b + t : Nat) : Int))) false 0))).set rb (some (.cells (bD ((l.set (a + t) ((b + t : Nat) : Int)).set (b + t) ((a + t : Nat) : Int))) false 0)), X.nx⟩) (fun call => by simp only [↓sU,sD,rE,↓reduceIte,rA, dT, cV]; exact aAd (S := ⟨X.h.set rb (some (.cells (bD (l.set (a + t) ((b + t : Nat) : Int))) false 0)), X.nx⟩) (l := l.set (a + t) ((b + t : Nat) : Int)) (o := false) (sz := 0) (by simp only; rw [T.get_set, if_pos rfl]) (by rw [List.length_set]; omega)) ?_
 simp only [↓sU,sD,rE,↓reduceIte,rA]
 refine aR ?_
 simp only [↓sU,sD,rE,↓reduceIte,rA, p18, w1]
 refine ⟨k - 1, by omega, rfl, ⟨sX.1, fun c hc => by simp only; rw [T.get_set, if_neg (by omega), T.get_set, if_neg (by omega)]; exact sX.2 c hc⟩, hb, t + 1, (l.set (a + t) ((b + t : Nat) : Int)).set (b + t) ((a + t : Nat) : Int), by omega, by rw [List.length_set, List.length_set]; exact hl, fun j hj => ?_, by simp only; rw [T.get_set, if_pos rfl], by simp only [↓sU,sD,rE,↓reduceIte,rA, p1], by simp only [↓sU,sD,rE,↓reduceIte,rA, p2], by simp only [↓sU,sD,rE,↓reduceIte,rA, p7], by simp only [↓sU,sD,rE,↓reduceIte,rA, p17], by simp only [↓sU,sD,rE,↓reduceIte,rA]⟩
 rw [iD (by rw [List.length_set]; omega), iD (by omega)]
 unfold swF
 by_cases e1 : j = b + t
 ·rw [if_pos e1, if_neg (by omega), if_pos (by omega)]
  omega
 ·rw [if_neg e1]
  by_cases e2 : j = a + t
  ·rw [if_pos e2, if_pos (by omega)]
   omega
  ·rw [if_neg e2, hf j hj]
   unfold swF
   by_cases e3 : a ≤ j ∧ j < a + t
   ·rw [if_pos e3, if_pos (show a ≤ j ∧ j < a + (t + 1) by omega)]
   ·rw [if_neg e3, if_neg (show ¬ (a ≤ j ∧ j < a + (t + 1)) by omega)]
    by_cases e4 : b ≤ j ∧ j < b + t
    ·rw [if_pos e4, if_pos (show b ≤ j ∧ j < b + (t + 1) by omega)]
    ·rw [if_neg e4, if_neg (show ¬ (b ≤ j ∧ j < b + (t + 1)) by omega)]
end Go.Ev.Gl
namespace Go.Ev.Gl
variable {fns : T cA}
theorem aDZ {X : St} {pa pb : Nat} {a b x y : Int} (H : Has fns) (ga : X.h.get pa = some (.cells [.int .i64 a] false 0)) (gb : X.h.get pb = some (.cells [.int .i64 b] false 0)) (ha : 0 ≤ a ∧ a ≤ 1000000) (hb : 0 ≤ b ∧ b ≤ 1000000) (hx : 0 ≤ x ∧ x ≤ 1000000) (hy : 0 ≤ y ∧ y ≤ 1000000) : iQ fns (.fn 151 [] [.ptr pa 0, .ptr pb 0]) [.int .i64 x, .int .i64 y] X fun r X' => r = .bool (decide (x - a = y - b)) ∧ Same X X' := by
 have la := cQ (p := 0) ga rfl
 have lb := cQ (p := 0) gb rfl
 have w1 : IntKind.i64.wrap (x - a) = x - a := wrap_i64 (by omega) (by omega)
 have w2 : IntKind.i64.wrap (y - b) = y - b := wrap_i64 (by omega) (by omega)
 refine cW H.f151 (by simp) ?_
 simp only [↓sU,sD,rE,↓reduceIte,rA]
 refine cI ?_
 simp only [↓sU,sD,rE,↓reduceIte,rA]
 refine cI ?_
 simp only [↓sU,sD,rE,↓reduceIte,rA, la, lb, w1, w2]
 refine aY ?_
 simp only [↓sU,sD,rE,↓reduceIte,rA]
 exact Same.refl _
def shP (a b : Int) (l m : List Int) : Prop := l.length = m.length ∧ ∀ k, k < l.length → l.getD k 0 - a = m.getD k 0 - b
def aNh (S : St) (av bv f : AV) (a b : Int) (l m : List Int) (k : Nat) (A : bT) (X : St) : Prop := A.inr = false ∧ Same S X ∧ ∃ i, i + k = l.length ∧ (∀ j, j < i → l.getD j 0 - a = m.getD j 0 - b) ∧ aC 1 A.F = bv ∧ aC 2 A.F = f ∧ aC 15 A.F = av ∧ aC 16 A.F = .int .i64 ((l.length : Nat) : Int) ∧ aC 17 A.F = .int .i64 (i : Int)
set_option maxHeartbeats 4000000 in
theorem aFd {S : St} {av bv : AV} {pa pb : Nat} {a b : Int} {l m : List Int} (H : Has fns) (hl : bS .i64 S av l) (hm : bS .i64 S bv m) (ga : S.h.get pa = some (.cells [.int .i64 a] false 0)) (gb : S.h.get pb = some (.cells [.int .i64 b] false 0)) (lpa : pa < S.nx) (lpb : pb < S.nx) (ha : 0 ≤ a ∧ a ≤ 1000000) (hb : 0 ≤ b ∧ b ≤ 1000000) (hx : ∀ j, j < l.length → 0 ≤ l.getD j 0 ∧ l.getD j 0 ≤ 1000000) (hy : ∀ j, j < m.length → 0 ≤ m.getD j 0 ∧ m.getD j 0 ≤ 1000000) (hll : l.length ≤ 10000000) :
  iQ fns (.fn 153 [] []) [av, bv, .fn 151 [] [.ptr pa 0, .ptr pb 0]] S fun r S' => Same S S' ∧ ∃ t, r = .bool t ∧ (t = true ↔ shP a b l m) := by
 have sav := bS.self hl
 refine cW H.f153 (by simp) ?_
 simp only [↓sU,sD,rE,↓reduceIte,rA]
 refine cI ?_
 simp only [↓sU,sD,rE,↓reduceIte,rA]
 refine kK ?_
 simp only [↓sU,sD,rE,↓reduceIte,rA, hl.len, hm.len, Int.ofNat_eq_natCast]
 by_cases hlm : l.length = m.length
 rotate_left
 ·refine bB (by simp only [↓sU,sD,rE,↓reduceIte,rA, decide_eq_true (show ((l.length : Nat) : Int) ≠ ((m.length : Nat) : Int) by omega)]) ?_
  refine cI ?_
  simp only [↓sU,sD,rE,↓reduceIte,rA]
  refine aY ?_
  simp only [↓sU,sD,rE,↓reduceIte,rA]
  exact ⟨Same.refl _, false, rfl, fun h => (by cases h), fun h => absurd h.1 hlm⟩
 refine aX (by simp only [↓sU,sD,rE,↓reduceIte,rA, decide_eq_false (show ¬ ((l.length : Nat) : Int) ≠ ((m.length : Nat) : Int) by omega)]) (aO ?_)
 try simp only [↓sU,sD,rE,↓reduceIte,rA]
 refine aE (bP (Q := fun o A' X => (o = .normal ∧ aNh S av bv (.fn 151 [] [.ptr pa 0, .ptr pb 0]) a b l m 0 A' X) ∨ (o = .ret ∧ Same S X ∧ ¬ shP a b l m ∧ aC 6 A'.F = .bool false)) (aE (aR ?_)) ?_)
 rotate_left
 ·rintro o ⟨F, inr⟩ X (⟨rfl, q0, hX, i, hik, he, _⟩ | ⟨rfl, hX, hne, p6⟩)
  ·simp only at q0
   subst q0
   obtain rfl : i = l.length := by omega
   try simp only [↓sU,sD,rE,↓reduceIte,rA]
   refine cI ?_
   simp only [↓sU,sD,rE,↓reduceIte,rA]
   refine aY ?_
   simp only [↓sU,sD,rE,↓reduceIte,rA]
   exact ⟨hX, true, rfl, fun _ => ⟨hlm, he⟩, fun _ => rfl⟩
  ·simp only at p6
   simp only [↓sU,sD,rE,↓reduceIte,rA, p6]
   exact ⟨hX, false, rfl, fun h => (by cases h), fun h => absurd h hne⟩
 simp only [↓sU,sD,rE,↓reduceIte,rA, hl.len, Int.ofNat_eq_natCast]
 refine bE (cS (aNh S av bv (.fn 151 [] [.ptr pa 0, .ptr pb 0]) a b l m) ?_ l.length _ _ ⟨rfl, Same.refl _, 0, by omega, fun j hj => absurd hj (Nat.not_lt_zero j), by simp only [↓sU,sD,rE,↓reduceIte,rA], by simp only [↓sU,sD,rE,↓reduceIte,rA], by simp only [↓sU,sD,rE,↓reduceIte,rA], by simp only [↓sU,sD,rE,↓reduceIte,rA], by simp only [↓sU,sD,rE,↓reduceIte,rA]; try rfl⟩)
 rintro k ⟨F, inr⟩ X ⟨q0, hX, i, hik, he, p1, p2, p15, p16, p17⟩
 simp only at q0 p1 p2 p15 p16 p17
 subst q0
 refine cI ?_
 simp only [↓sU,sD,rE,↓reduceIte,rA, p16, p17]
 by_cases hlt : i < l.length
 rotate_left
 ·refine aE (aX (by simp only [↓sU,sD,rE,↓reduceIte,rA, decide_eq_false (show ¬ (i : Int) < ((l.length : Nat) : Int) by omega)]) (cL ?_))
  simp only [↓sU,sD,rE,↓reduceIte,rA]
  obtain rfl : k = 0 := by omega
  exact .inl ⟨rfl, hX, i, hik, he, by simp only [↓sU,sD,rE,↓reduceIte,rA, p1], by simp only [↓sU,sD,rE,↓reduceIte,rA, p2], by simp only [↓sU,sD,rE,↓reduceIte,rA, p15], by simp only [↓sU,sD,rE,↓reduceIte,rA, p16], by simp only [↓sU,sD,rE,↓reduceIte,rA, p17]⟩
 refine aE (bB (by simp only [↓sU,sD,rE,↓reduceIte,rA, decide_eq_true (show (i : Int) < ((l.length : Nat) : Int) by omega)]) (aO ?_))
 try simp only [↓sU,sD,rE,↓reduceIte,rA]
 have hltm : i < m.length := by omega
 have ia := (hl.same hX).iaddr hlt
 have la := (hl.same hX).ld hlt
 have ib := (hm.same hX).iaddr hltm
 have lb := (hm.same hX).ld hltm
 have w1 : IntKind.i64.wrap ((i : Int) + 1) = ((i + 1 : Nat) : Int) := by rw [wrap_i64 (by omega) (by omega)]; omega
 refine aE (bE (aE (aR ?_)))
 simp only [↓sU,sD,rE,↓reduceIte,rA, p15, p17, aL, ia, la]
 refine cI ?_
 simp only [↓sU,sD,rE,↓reduceIte,rA, p1, aL, ib, lb]
 refine cI ?_
 simp only [↓sU,sD,rE,↓reduceIte,rA, p2]
 refine bL ?_
 simp only [↓sU,sD,rE,↓reduceIte,rA, p2]
 refine aW (aDZ H ((hX.2 _ lpa).trans ga) ((hX.2 _ lpb).trans gb) ha hb (hx i hlt) (hy i hltm)) ?_
 rintro _ Y ⟨rfl, hY⟩
 have sY := hX.trans hY
 simp only [↓sU,sD,rE,↓reduceIte,rA, gO]
 by_cases hc : l.getD i 0 - a = m.getD i 0 - b
 ·refine aX (by simp only [↓sU,sD,rE,↓reduceIte,rA, decide_eq_true hc, Bool.not_true]) (aO ?_)
  try simp only [↓sU,sD,rE,↓reduceIte,rA]
  refine aR ?_
  simp only [↓sU,sD,rE,↓reduceIte,rA, p17, w1]
  exact ⟨k - 1, by omega, rfl, sY, i + 1, by omega, fun j hj => by
   by_cases e : j = i
   ·rw [e]; exact hc
   ·exact he j (by omega), by simp only [↓sU,sD,rE,↓reduceIte,rA, p1], by simp only [↓sU,sD,rE,↓reduceIte,rA, p2], by simp only [↓sU,sD,rE,↓reduceIte,rA, p15], by simp only [↓sU,sD,rE,↓reduceIte,rA, p16], by simp only [↓sU,sD,rE,↓reduceIte,rA]⟩
 ·refine bB (by simp only [↓sU,sD,rE,↓reduceIte,rA, decide_eq_false hc, Bool.not_false]) ?_
  refine cI ?_
  simp only [↓sU,sD,rE,↓reduceIte,rA]
  refine aY ?_
  simp only [↓sU,sD,rE,↓reduceIte,rA]
  exact .inr ⟨sY, fun h => hc (h.2 i hlt)⟩
end Go.Ev.Gl
namespace Go.Ev.Gl
variable {fns : T cA}
def aGV (a b : Int) (x y : cM) : Prop := x.kind = y.kind ∧ x.player = y.player ∧ x.pay = y.pay ∧ x.weights = y.weights ∧ shP a b x.next y.next
def aD7 (g : bG) (T : List cK) (a b : Nat) : Prop := fR T a = fR T b ∧ ∀ t, t < fR T a → aGV (a : Int) (b : Int) (nodeAt g (a + t)) (nodeAt g (b + t))
def aMM (S2 : St) (wb pa pb : Nat) (g : bG) (T : List cK) (a b : Nat) (k : Nat) (A : bT) (X : St) : Prop := A.inr = false ∧ Same S2 X ∧ ∃ t, t + k = fR T a ∧ (∀ j, j < t → aGV (a : Int) (b : Int) (nodeAt g (a + j)) (nodeAt g (b + j))) ∧ aC 0 A.F = .ptr wb 0 ∧ aC 4 A.F = .ptr pa 0 ∧ aC 5 A.F = .ptr pb 0 ∧ aC 7 A.F = .fn 151 [] [.ptr pa 0, .ptr pb 0] ∧ aC 33 A.F = .int .i64 ((fR T a : Nat) : Int) ∧ aC 34 A.F = .int .i64 (t : Int)
set_option maxHeartbeats 8000000 in
theorem aFD {S : St} {wb plb szb a b : Nat} {nv iv pv : AV} {g : bG} {T : List cK} (H : Has fns) (G : fP g) (hT : iC g = some T) (hTl : T.length = g.nodes.length) (hB : gT S wb plb szb pv nv iv g (kG g) (szL T g.nodes.length)) (hn : aQ 6 cO S nv g.nodes) (ha : a < g.nodes.length) (hb : b < g.nodes.length) (hwl : ∀ i, i < g.nodes.length → (nodeAt g i).weights.length ≤ 1000) :
  iQ fns (.fn 114 [] []) [.ptr wb 0, .int .i64 (a : Int), .int .i64 (b : Int)] S fun r S' => Same S S' ∧ ∃ t, r = .bool t ∧ (t = true ↔ aD7 g T a b) := by
 have hN2 := G.n2
 obtain ⟨za, za1, za2⟩ := aAV hT hTl (by omega) ha
 obtain ⟨zb, zb1, zb2⟩ := aAV hT hTl (by omega) hb
 have snv := aQ.self hn
 refine cW H.f114 (by simp) ?_
 simp only [↓sU,sD,rE,↓reduceIte,rA]
 refine cI ?_
 refine eY (cs := [.int .i64 (a : Int)]) rfl ?_
 intro S1 s1 n1 g1
 refine eY (cs := [.int .i64 (b : Int)]) rfl ?_
 intro S2 s2 n2 g2
 have g1' := (s2.2 _ (show S.nx < S1.nx by omega)).trans g1
 have s12 := s1.trans s2
 simp only [↓sU,sD,rE,↓reduceIte,rA]
 have hW2 := hB.w.same s12
 have gz2 := (s12.2 _ hB.bz).trans hB.gz
 have hia := gN (b := szb) (o := false) ha
 have hla := aFJ gz2 (p := a) (by rw [hB.lz]; exact ha)
 have hib := gN (b := szb) (o := false) hb
 have hlb := aFJ gz2 (p := b) (by rw [hB.lz]; exact hb)
 rw [za] at hla
 rw [zb] at hlb
 have l4 := cQ (p := 0) g1' rfl
 have l5 := cQ (p := 0) g2 rfl
 refine aE (aE (mO ?_))
 simp only [↓sU,sD,rE,↓reduceIte,rA, aS, bF, aT, aB, aN, aA, gK hW2.1, l4, l5, aL, hia, hla, hib, hlb]
 by_cases hsz : fR T a = fR T b
 rotate_left
 ·refine bB (by simp only [↓sU,sD,rE,↓reduceIte,rA, decide_eq_true (show ((fR T a : Nat) : Int) ≠ ((fR T b : Nat) : Int) by omega)]) ?_
  refine cI ?_
  simp only [↓sU,sD,rE,↓reduceIte,rA]
  refine aY ?_
  simp only [↓sU,sD,rE,↓reduceIte,rA]
  exact ⟨s12.trans (Same.nx _ _), false, rfl, fun h => (by cases h), fun h => absurd h.1 hsz⟩
 refine aX (by simp only [↓sU,sD,rE,↓reduceIte,rA, decide_eq_false (show ¬ ((fR T a : Nat) : Int) ≠ ((fR T b : Nat) : Int) by omega)]) (aO ?_)
 try simp only [↓sU,sD,rE,↓reduceIte,rA]
 have hmk : ∀ (F : Fr) (h : Ev.T AB), aC 4 F = .ptr S.nx 0 → aC 5 F = .ptr S1.nx 0 → gP (.mkFunc 151 [] [.t 4, .t 5]) F h = some (.fn 151 [] [.ptr S.nx 0, .ptr S1.nx 0]) := fun F h h1 h2 => by
  show some (AV.fn _ (cT [] F) (cT [.t 4, .t 5] F)) = _
  simp only [cT, iG, h1, h2]
 refine cI ?_
 simp only [↓sU,sD,rE,↓reduceIte,rA, hmk]
 refine aE (bP (Q := fun o A' X => (o = .normal ∧ aMM S2 wb S.nx S1.nx g T a b 0 A' X) ∨ (o = .ret ∧ Same S2 X ∧ ¬ aD7 g T a b ∧ aC 6 A'.F = .bool false)) (aE (mO ?_)) ?_)
 rotate_left
 ·rintro o ⟨F, inr⟩ X (⟨rfl, q0, hX, t, htk, he, _⟩ | ⟨rfl, hX, hne, p6⟩)
  ·simp only at q0
   subst q0
   obtain rfl : t = fR T a := by omega
   try simp only [↓sU,sD,rE,↓reduceIte,rA]
   refine cI ?_
   simp only [↓sU,sD,rE,↓reduceIte,rA]
   refine aY ?_
   simp only [↓sU,sD,rE,↓reduceIte,rA]
   exact ⟨s12.trans hX, true, rfl, fun _ => ⟨hsz, he⟩, fun _ => rfl⟩
  ·simp only at p6
   simp only [↓sU,sD,rE,↓reduceIte,rA, p6]
   exact ⟨s12.trans hX, false, rfl, fun h => (by cases h), fun h => absurd h hne⟩
 simp only [↓sU,sD,rE,↓reduceIte,rA, aS, bF, aT, aB, aN, aA, gK hW2.1, l4, l5, aL, hia, hla]
 refine bE (cS (aMM S2 wb S.nx S1.nx g T a b) ?_ (fR T a) _ _ ⟨rfl, ?_, 0, by omega, fun j hj => absurd hj (Nat.not_lt_zero j), by simp only [↓sU,sD,rE,↓reduceIte,rA], by simp only [↓sU,sD,rE,↓reduceIte,rA], by simp only [↓sU,sD,rE,↓reduceIte,rA], by simp only [↓sU,sD,rE,↓reduceIte,rA]; try rfl, by simp only [↓sU,sD,rE,↓reduceIte,rA]; try rfl, by simp only [↓sU,sD,rE,↓reduceIte,rA]; try rfl⟩)
 rotate_left
 ·first | exact Same.nx _ _ | exact (Same.nx _ _).trans (Same.nx _ _) | skip
 clear l4 l5 hla hlb hia hib gz2 hW2 hmk
 rintro k ⟨F, inr⟩ X ⟨q0, hX, t, htk, he, p0, p4, p5, p7, p33, p34⟩
 simp only at q0 p0 p4 p5 p7 p33 p34
 subst q0
 refine cI ?_
 simp only [↓sU,sD,rE,↓reduceIte,rA, p33, p34]
 by_cases hlt : t < fR T a
 rotate_left
 ·refine aE (aX (by simp only [↓sU,sD,rE,↓reduceIte,rA, decide_eq_false (show ¬ (t : Int) < ((fR T a : Nat) : Int) by omega)]) (cL ?_))
  simp only [↓sU,sD,rE,↓reduceIte,rA]
  obtain rfl : k = 0 := by omega
  exact .inl ⟨rfl, hX, t, htk, he, by simp only [↓sU,sD,rE,↓reduceIte,rA, p0], by simp only [↓sU,sD,rE,↓reduceIte,rA, p4], by simp only [↓sU,sD,rE,↓reduceIte,rA, p5], by simp only [↓sU,sD,rE,↓reduceIte,rA, p7], by simp only [↓sU,sD,rE,↓reduceIte,rA, p33], by simp only [↓sU,sD,rE,↓reduceIte,rA, p34]⟩
 refine aE (bB (by simp only [↓sU,sD,rE,↓reduceIte,rA, decide_eq_true (show (t : Int) < ((fR T a : Nat) : Int) by omega)]) (aO ?_))
 try simp only [↓sU,sD,rE,↓reduceIte,rA]
 have hat : a + t < g.nodes.length := by omega
 have hbt : b + t < g.nodes.length := by omega
 have w1 : IntKind.i64.wrap ((t : Int) + 1) = ((t + 1 : Nat) : Int) := by rw [wrap_i64 (by omega) (by omega)]; omega
 have wa : IntKind.i64.wrap ((a : Int) + (t : Int)) = ((a + t : Nat) : Int) := by rw [wrap_i64 (by omega) (by omega)]; omega
 have wb' : IntKind.i64.wrap ((b : Int) + (t : Int)) = ((b + t : Nat) : Int) := by rw [wrap_i64 (by omega) (by omega)]; omega
 have sX := s12.trans hX
 have hnX := aQ.same (E := cO) cB hn sX
 have hWX := hB.w.same sX
 have g4 := (hX.2 _ (show S.nx < S2.nx by omega)).trans g1'
 have g5 := (hX.2 _ (show S1.nx < S2.nx by omega)).trans g2
 have l4 := cQ (p := 0) g4 rfl
 have l5 := cQ (p := 0) g5 rfl
 have lwX : wb < X.nx := Nat.lt_of_lt_of_le hB.w.2 sX.1
 have m2 := hX.1
 obtain ⟨_, bx, qx, hiax, hbx, _, ⟨xa, xw, xp, rfl, hxa, hxw, hxp⟩, hldx, _⟩ := aQ.at hnX (by decide) (dU hat)
 obtain ⟨_, by', qy, hiay, hby, _, ⟨ya, yw, yp, rfl, hya, hyw, hyp⟩, hldy, _⟩ := aQ.at hnX (by decide) (dU hbt)
 have sx := qB (x0 := (nodeAt g (a + t)).kind) (x1 := (nodeAt g (a + t)).player) (x2 := (nodeAt g (a + t)).info) (k := .i64) (bS.self hxa) (bS.self hxw) (bS.self hxp)
 have sy := qB (x0 := (nodeAt g (b + t)).kind) (x1 := (nodeAt g (b + t)).player) (x2 := (nodeAt g (b + t)).info) (k := .i64) (bS.self hya) (bS.self hyw) (bS.self hyp)
 have l4X : S.nx < X.nx := by omega
 have l5X : S1.nx < X.nx := by omega
 refine aE (bE (aE (aR ?_)))
 simp only [↓sU,sD,rE,↓reduceIte,rA, p34]
 refine aE (yS (fun _ => False) ?_)
 simp only [↓sU,sD,rE,↓reduceIte,rA, p0, p4, p5, not_false_eq_true, aS, bF, aT, aB, aN, aA, eQ hWX.1, lwX, snv, l4, l5, l4X, l5X, eU, wa, wb', aL, hiax, hldx, sx, hbx, hiay, hldy, sy, hby, uJ]
 refine aIR (n := 6) rfl rfl rfl (by simp only [↓sU,sD,rE,↓reduceIte,rA]) (by simp only [↓sU,sD,rE,↓reduceIte,rA]) (by simp only [↓sU,sD,rE,↓reduceIte,rA]; exact bK _) (by simp only [↓sU,sD,rE,↓reduceIte,rA]; exact bK _) rfl rfl rfl (by omega) (by omega) (by omega) ?_
 intro X1 hX1n hgx hgy hX1
 rw [bX]
 have hX1n : X1.nx = X.nx + 24 := hX1n
 have sX1 : Same X X1 := ⟨by omega, fun c hc => hX1 c (by omega) (by omega)⟩
 show lZ fns _ _ X1 _
 have hxa1 := hxa.same sX1
 have hya1 := hya.same sX1
 have hxw1 := hxw.same sX1
 have hyw1 := hyw.same sX1
 have hxp1 := hxp.same sX1
 have hyp1 := hyp.same sX1
 have g41 := (sX1.2 _ l4X).trans g4
 have g51 := (sX1.2 _ l5X).trans g5
 refine aE (bP (Q := fun o A' Y => o = .normal ∧ A'.inr = false ∧ Same X1 Y ∧ aC 0 A'.F = .ptr wb 0 ∧ aC 4 A'.F = .ptr S.nx 0 ∧ aC 5 A'.F = .ptr S1.nx 0 ∧ aC 7 A'.F = .fn 151 [] [.ptr S.nx 0, .ptr S1.nx 0] ∧ aC 33 A'.F = .int .i64 ((fR T a : Nat) : Int) ∧ aC 34 A'.F = .int .i64 (t : Int) ∧ ∃ u, aC 93 A'.F = .bool u ∧ (u = true ↔ ¬ aGV (a : Int) (b : Int) (nodeAt g (a + t)) (nodeAt g (b + t)))) (aR ?_) ?_)
 rotate_left
 ·clear p0 p4 p5 p7 p33 p34
  rintro o ⟨F, inr⟩ Y ⟨rfl, q0, hY, p0, p4, p5, p7, p33, p34, u, p93, hu⟩
  simp only at q0 p0 p4 p5 p7 p33 p34 p93
  subst q0
  have sY := (hX.trans sX1).trans hY
  try simp only [↓sU,sD,rE,↓reduceIte,rA]
  cases u with
  | true =>
   refine bB (by simp only [↓sU,sD,rE,↓reduceIte,rA, p93]) ?_
   refine cI ?_
   simp only [↓sU,sD,rE,↓reduceIte,rA]
   refine aY ?_
   simp only [↓sU,sD,rE,↓reduceIte,rA]
   exact .inr ⟨sY, fun h => hu.1 rfl (h.2 t hlt)⟩
  | false =>
   have hlk : aGV (a : Int) (b : Int) (nodeAt g (a + t)) (nodeAt g (b + t)) := Classical.byContradiction fun h => by have := hu.2 h; cases this
   refine aX (by simp only [↓sU,sD,rE,↓reduceIte,rA, p93]) (aO ?_)
   try simp only [↓sU,sD,rE,↓reduceIte,rA]
   refine aR ?_
   simp only [↓sU,sD,rE,↓reduceIte,rA, p34, w1]
   exact ⟨k - 1, by omega, rfl, sY, t + 1, by omega, fun j hj => by
    by_cases e : j = t
    ·rw [e]; exact hlk
    ·exact he j (by omega), by simp only [↓sU,sD,rE,↓reduceIte,rA, p0], by simp only [↓sU,sD,rE,↓reduceIte,rA, p4], by simp only [↓sU,sD,rE,↓reduceIte,rA, p5], by simp only [↓sU,sD,rE,↓reduceIte,rA, p7], by simp only [↓sU,sD,rE,↓reduceIte,rA, p33], by simp only [↓sU,sD,rE,↓reduceIte,rA]⟩
 by_cases c1 : (nodeAt g (a + t)).kind = (nodeAt g (b + t)).kind
 rotate_left
 ·simp only [↓sU,sD,rE,↓reduceIte,rA, p0, p4, p5, p7, p33, p34, aB, aA, fG hgx, fG hgy, decide_eq_true (show (nodeAt g (a + t)).kind ≠ (nodeAt g (b + t)).kind from c1)]
  exact ⟨Same.refl _, true, rfl, fun _ h => c1 h.1, fun _ => rfl⟩
 have c1' := decide_eq_false (show ¬ (nodeAt g (a + t)).kind ≠ (nodeAt g (b + t)).kind from fun h => h c1)
 by_cases c2 : (nodeAt g (a + t)).player = (nodeAt g (b + t)).player
 rotate_left
 ·simp only [↓sU,sD,rE,↓reduceIte,rA, p0, p4, p5, p7, p33, p34, aB, aA, fG hgx, fG hgy, eQ hgx, eQ hgy, c1', decide_eq_true (show (nodeAt g (a + t)).player ≠ (nodeAt g (b + t)).player from c2)]
  exact ⟨Same.refl _, true, rfl, fun _ h => c2 h.2.1, fun _ => rfl⟩
 have c2' := decide_eq_false (show ¬ (nodeAt g (a + t)).player ≠ (nodeAt g (b + t)).player from fun h => h c2)
 simp only [↓sU,sD,rE,↓reduceIte,rA, p0, p4, p5, p7, p33, p34, aB, aA, fG hgx, fG hgy, eQ hgx, eQ hgy, gK hgx, gK hgy, c1', c2']
 refine bL ?_
 simp only [↓sU,sD,rE,↓reduceIte,rA]
 refine aW (wL H hxp1 hyp1 (by have := G.pay _ hat; omega)) ?_
 rintro _ Y ⟨rfl, hY⟩
 have lx1 : X.nx + 20 < X1.nx := by omega
 have ly1 : X.nx + 21 < X1.nx := by omega
 have hgxY := (hY.2 _ lx1).trans hgx
 have hgyY := (hY.2 _ ly1).trans hgy
 by_cases c3 : (nodeAt g (a + t)).pay = (nodeAt g (b + t)).pay
 rotate_left
 ·rw [decide_eq_false c3]
  simp only [↓sU,sD,rE,↓reduceIte,rA, gO, Bool.not_false, aB, aA, p0, p4, p5, p7, p33, p34]
  exact ⟨hY, true, rfl, fun _ h => c3 h.2.2.1, fun _ => rfl⟩
 rw [decide_eq_true c3]
 simp only [↓sU,sD,rE,↓reduceIte,rA, gO, Bool.not_true, aB, aA, fM hgxY, fM hgyY, p0, p4, p5, p7, p33, p34]
 refine bL ?_
 simp only [↓sU,sD,rE,↓reduceIte,rA]
 refine aW (wL H (hxw1.same hY) (hyw1.same hY) (by have := hwl _ hat; omega)) ?_
 rintro _ Y2 ⟨rfl, hY2⟩
 have hgx2 := (hY2.2 _ (Nat.lt_of_lt_of_le lx1 hY.1)).trans hgxY
 have hgy2 := (hY2.2 _ (Nat.lt_of_lt_of_le ly1 hY.1)).trans hgyY
 have sY2 := hY.trans hY2
 by_cases c4 : (nodeAt g (a + t)).weights = (nodeAt g (b + t)).weights
 rotate_left
 ·rw [decide_eq_false c4]
  simp only [↓sU,sD,rE,↓reduceIte,rA, gO, Bool.not_false, aB, aA, p0, p4, p5, p7, p33, p34]
  exact ⟨sY2, true, rfl, fun _ h => c4 h.2.2.2.1, fun _ => rfl⟩
 rw [decide_eq_true c4]
 simp only [↓sU,sD,rE,↓reduceIte,rA, gO, Bool.not_true, aB, aA, fI hgx2, fI hgy2, p0, p4, p5, p7, p33, p34]
 refine bL ?_
 simp only [↓sU,sD,rE,↓reduceIte,rA, p7]
 have kb := fun i (hi : i < g.nodes.length) j (hj : j < (nodeAt g i).next.length) => G.kids i hi j hj
 have s12' := sX1.trans sY2
 refine aW (aFd H (hxa.same s12') (hya.same s12') ((s12'.2 _ l4X).trans g4) ((s12'.2 _ l5X).trans g5) (Nat.lt_of_lt_of_le l4X s12'.1) (Nat.lt_of_lt_of_le l5X s12'.1) (by omega) (by omega) (fun j hj => by have := kb _ hat j hj; omega) (fun j hj => by have := kb _ hbt j hj; omega) (by have := G.nxt _ hat; omega)) ?_
 rintro _ Y3 ⟨hY3, u, rfl, hu⟩
 simp only [↓sU,sD,rE,↓reduceIte,rA, gO, p0, p4, p5, p7, p33, p34]
 refine ⟨sY2.trans hY3, !u, rfl, ?_⟩
 cases u with
 | true => exact ⟨fun h => (by cases h), fun h => absurd ⟨c1, c2, c3, c4, hu.1 rfl⟩ h⟩
 | false => exact ⟨fun _ h => (by have := hu.2 h.2.2.2.2; cases this), fun _ => rfl⟩
end Go.Ev.Gl
namespace Go.Ev.Gl
variable {fns : T cA}
theorem bS.ptr {k : IntKind} {S : St} {v : AV} {l : List Int} {i : Nat} (h : bS k S v l) (hi : i < l.length) : ∃ b off, eO (.slice 1) v i = some (.ptr b off) ∧ b < S.nx ∧ fK (.ptr b off) false 1 S.h = some (.int k (l.getD i 0)) := by
 have ia := h.iaddr hi
 have ld := h.ld hi
 rcases h with ⟨h0, _⟩ | ⟨b, off, cap, o, cs, rfl, _, hb, _⟩
 ·rw [h0] at hi; simp at hi
 ·simp only [aAt] at ia ld
  exact ⟨b, _, ia, hb, ld⟩
def aF8 (g : bG) (T : List cK) (i k j : Nat) : Prop := (nodeAt g i).weights.getD k 0 = (nodeAt g i).weights.getD j 0 ∧ aD7 g T ((nodeAt g i).next.getD k 0).toNat ((nodeAt g i).next.getD j 0).toNat ∧ lL g (yU g.nodes.length ((nodeAt g i).next.getD k 0).toNat ((nodeAt g i).next.getD j 0).toNat (fR T ((nodeAt g i).next.getD k 0).toNat))
open Classical in
noncomputable def iW (g : bG) (T : List cK) (i k : Nat) : Nat → List (List Int)
 | 0 => []
 | j + 1 => iW g T i k j ++ if k < j ∧ aF8 g T i k j then [yU g.nodes.length ((nodeAt g i).next.getD k 0).toNat ((nodeAt g i).next.getD j 0).toNat (fR T ((nodeAt g i).next.getD k 0).toNat)] else []
noncomputable def lT (g : bG) (T : List cK) (i : Nat) : Nat → List (List Int)
 | 0 => []
 | k + 1 => lT g T i k ++ iW g T i k (nodeAt g i).next.length
noncomputable def iB (g : bG) (T : List cK) : Nat → List (List Int)
 | 0 => []
 | i + 1 => iB g T i ++ if (nodeAt g i).kind = 1 then lT g T i (nodeAt g i).next.length else []
open Classical in
theorem aDf {g : bG} {T : List cK} {i k : Nat} : ∀ {j : Nat}, j ≤ k + 1 → iW g T i k j = []
 | 0, _ => rfl
 | j + 1, h => by
  show iW g T i k j ++ (if _ then _ else []) = []
  rw [aDf (by omega), if_neg (fun e => by have := e.1; omega)]
  rfl
theorem aJq {N a b n j : Nat} (hab : a + n ≤ b) (hbn : b + n ≤ N) (hj : j < N) : swF a b n j < N := by
 unfold swF
 split
 ·omega
 ·split <;> omega
theorem aGz {g : bG} {a b n : Nat} (hab : a + n ≤ b) (hbn : b + n ≤ g.nodes.length) : oB g (yU g.nodes.length a b n) :=
 aGX (by unfold yU; rw [List.length_map, List.length_range]) fun i hi => by
  unfold yU
  rw [nK hi]
  have := aJq hab hbn hi
  omega
theorem aJB {N a b n j : Nat} (hab : a + n ≤ b) (_hj : j < N) : swF a b n (swF a b n j) = j := by
 unfold swF
 by_cases e1 : a ≤ j ∧ j < a + n
 ·rw [if_pos e1, if_neg (show ¬ (a ≤ j - a + b ∧ j - a + b < a + n) by omega), if_pos (show b ≤ j - a + b ∧ j - a + b < b + n by omega)]
  omega
 ·rw [if_neg e1]
  by_cases e2 : b ≤ j ∧ j < b + n
  ·rw [if_pos e2, if_pos (show a ≤ j - b + a ∧ j - b + a < a + n by omega)]
   omega
  ·rw [if_neg e2, if_neg e1, if_neg e2]
theorem aCc {N a b n i : Nat} (hi : i < N) : eT (yU N a b n) i = swF a b n i := by
 unfold eT yU
 rw [nK hi, Int.toNat_natCast]
theorem aJc {g : bG} {a b n : Nat} (hab : a + n ≤ b) (hbn : b + n ≤ g.nodes.length) (hA : lL g (yU g.nodes.length a b n)) : jA g (yU g.nodes.length a b n) ∧ aAj g (yU g.nodes.length a b n) := by
 have M := aGz (g := g) hab hbn
 have h2 : aAj g (yU g.nodes.length a b n) := fun i hi => by
  rw [aCc hi, aCc (aJq hab hbn hi)]
  exact aJB hab hi
 refine ⟨⟨M, ?_, hA⟩, h2⟩
 rintro ⟨i, k, hki, hi, he⟩
 rw [M.len] at hi
 have e1 := (M.at hi).1
 have e2 := (M.at (show k < g.nodes.length by omega)).1
 have e3 : eT (yU g.nodes.length a b n) i = eT (yU g.nodes.length a b n) k := by omega
 have := h2 i hi
 rw [e3, h2 k (by omega)] at this
 omega
structure aLS (g : bG) (T : List cK) (i k j : Nat) : Prop where
 ap : ((nodeAt g i).next.getD k 0).toNat + fR T ((nodeAt g i).next.getD k 0).toNat ≤ ((nodeAt g i).next.getD j 0).toNat
 la : ((nodeAt g i).next.getD k 0).toNat < g.nodes.length
 lb : ((nodeAt g i).next.getD j 0).toNat < g.nodes.length
 nb : ((nodeAt g i).next.getD j 0).toNat + fR T ((nodeAt g i).next.getD j 0).toNat ≤ g.nodes.length
 za : (szL T g.nodes.length).getD ((nodeAt g i).next.getD k 0).toNat 0 = ((fR T ((nodeAt g i).next.getD k 0).toNat : Nat) : Int)
theorem aID {g : bG} {T : List cK} {i k j : Nat} (G : fP g) (hT : iC g = some T) (hTl : T.length = g.nodes.length) (hi : i < g.nodes.length) (hkj : k < j) (hj : j < (nodeAt g i).next.length) : aLS g T i k j := by
 have hN := G.n2
 obtain ⟨a1, a2⟩ := G.kids i hi k (by omega)
 obtain ⟨b1, b2⟩ := G.kids i hi j hj
 obtain ⟨_, _, z3⟩ := aAV hT hTl (by omega) (show ((nodeAt g i).next.getD j 0).toNat < g.nodes.length by omega)
 exact ⟨aFS hT hTl hi hkj hj (by omega), by omega, by omega, z3, (aAV hT hTl (by omega) (show ((nodeAt g i).next.getD k 0).toNat < g.nodes.length by omega)).1⟩
theorem aIK {g : bG} {T : List cK} (G : fP g) (hT : iC g = some T) (hTl : T.length = g.nodes.length) : ∀ m ∈ iB g T g.nodes.length, jA g m ∧ aAj g m := by
 have hJ : ∀ i k, i < g.nodes.length → ∀ j, j ≤ (nodeAt g i).next.length → ∀ m ∈ iW g T i k j, jA g m ∧ aAj g m := by
  intro i k hi j
  induction j with
  | zero => intro _ m hm; cases hm
  | succ j ih =>
   intro hj m hm
   rcases List.mem_append.1 hm with h | h
   ·exact ih (by omega) m h
   ·split at h
    ·rename_i hc
     obtain ⟨hkj, _, hal, hA⟩ := hc
     have P := aID G hT hTl hi hkj (show j < (nodeAt g i).next.length by omega)
     rw [List.mem_singleton.1 h]
     have := P.nb
     have := hal.1
     exact aJc P.ap (by omega) hA
    ·cases h
 have hK : ∀ i, i < g.nodes.length → ∀ k, ∀ m ∈ lT g T i k, jA g m ∧ aAj g m := by
  intro i hi k
  induction k with
  | zero => intro m hm; cases hm
  | succ k ih =>
   intro m hm
   rcases List.mem_append.1 hm with h | h
   ·exact ih m h
   ·exact hJ i k hi _ (Nat.le_refl _) m h
 have hI : ∀ i, i ≤ g.nodes.length → ∀ m ∈ iB g T i, jA g m ∧ aAj g m := by
  intro i
  induction i with
  | zero => intro _ m hm; cases hm
  | succ i ih =>
   intro hi m hm
   rcases List.mem_append.1 hm with h | h
   ·exact ih (by omega) m h
   ·split at h
    ·exact hK i (by omega) _ m h
    ·cases h
 exact hI _ (Nat.le_refl _)
end Go.Ev.Gl
namespace Go.Ev.Gl
variable {fns : T cA}
structure SwH (S2 X : St) (wb : Nat) (nv : AV) (g : bG) (pv : AV) (cs : List AV) (L : List (List Int)) (i : Nat) (F : Fr) : Prop where
 same : Same S2 X
 gr : gQ 1 S2 X pv L.length cs
 rw : aAp S2 X pv cs L
 t4 : aC 4 F = .ptr wb 0
 t6 : aC 6 F = pv
 t24 : aC 24 F = nv
 t25 : aC 25 F = .int .i64 ((g.nodes.length : Nat) : Int)
 t26 : aC 26 F = .int .i64 (i : Int)
def aK6 (S2 : St) (wb : Nat) (nv : AV) (g : bG) (T : List cK) (k : Nat) (A : bT) (X : St) : Prop := A.inr = false ∧ ∃ (i : Nat) (pv : AV) (cs : List AV), i + k = g.nodes.length ∧ SwH S2 X wb nv g pv cs (iB g T i) i A.F
def aK2 (S2 : St) (wb nb : Nat) (nv xa : AV) (g : bG) (T : List cK) (cells : List AV) (i : Nat) (k : Nat) (A : bT) (X : St) : Prop := A.inr = false ∧ nb < X.nx ∧ X.h.get nb = some (.cells cells false 0) ∧ ∃ (q : Nat) (pv : AV) (cs : List AV), q + k = (nodeAt g i).next.length ∧ SwH S2 X wb nv g pv cs (iB g T i ++ lT g T i q) i A.F ∧ aC 8 A.F = .ptr nb 0 ∧ aC 34 A.F = xa ∧ aC 35 A.F = .int .i64 (((nodeAt g i).next.length : Nat) : Int) ∧ aC 36 A.F = .int .i64 (q : Int)
def aJP (S2 : St) (wb nb : Nat) (nv xa : AV) (g : bG) (T : List cK) (cells : List AV) (i q : Nat) (k : Nat) (A : bT) (X : St) : Prop := A.inr = false ∧ nb < X.nx ∧ X.h.get nb = some (.cells cells false 0) ∧ ∃ (j : Nat) (pv : AV) (cs : List AV), j + k = (nodeAt g i).next.length ∧ q < j ∧ SwH S2 X wb nv g pv cs (iB g T i ++ (lT g T i q ++ iW g T i q j)) i A.F ∧ aC 8 A.F = .ptr nb 0 ∧ aC 34 A.F = xa ∧ aC 35 A.F = .int .i64 (((nodeAt g i).next.length : Nat) : Int) ∧ aC 36 A.F = .int .i64 (q : Int) ∧ aC 9 A.F = .int .i64 (q : Int) ∧ aC 10 A.F = .int .i64 ((nodeAt g i).next.getD q 0) ∧ aC 11 A.F = .int .i64 (j : Int)
theorem SwH.step {S2 X Y : St} {wb : Nat} {nv pv : AV} {g : bG} {cs : List AV} {L : List (List Int)} {i : Nat} {F F' : Fr} (h : SwH S2 X wb nv g pv cs L i F) (hs : Same X Y) (h4 : aC 4 F' = aC 4 F) (h6 : aC 6 F' = aC 6 F) (h24 : aC 24 F' = aC 24 F) (h25 : aC 25 F' = aC 25 F) (h26 : aC 26 F' = aC 26 F) : SwH S2 Y wb nv g pv cs L i F' :=
 ⟨h.same.trans hs, h.gr.step hs, ⟨h.rw.1, fun j hj => by
  obtain ⟨r, h1, h2, h3⟩ := h.rw.2 j hj
  exact ⟨r, h1, h2.same hs, h3⟩⟩, h4.trans h.t4, h6.trans h.t6, h24.trans h.t24, h25.trans h.t25, h26.trans h.t26⟩
open Classical in
theorem aEQ {g : bG} {T : List cK} {i k j : Nat} (hkj : k < j) (h : aF8 g T i k j) : iW g T i k (j + 1) = iW g T i k j ++ [yU g.nodes.length ((nodeAt g i).next.getD k 0).toNat ((nodeAt g i).next.getD j 0).toNat (fR T ((nodeAt g i).next.getD k 0).toNat)] := by
 show iW g T i k j ++ (if _ then _ else []) = _
 rw [if_pos ⟨hkj, h⟩]
open Classical in
theorem aIc {g : bG} {T : List cK} {i k j : Nat} (h : ¬ aF8 g T i k j) : iW g T i k (j + 1) = iW g T i k j := by
 show iW g T i k j ++ (if _ then _ else []) = _
 rw [if_neg (fun e => h e.2), List.append_nil]
open Classical in
theorem zF {g : bG} {T : List cK} {i k : Nat} : ∀ {j : Nat}, (iW g T i k j).length ≤ j
 | 0 => Nat.le_refl _
 | j + 1 => by
  have ih := zF (g := g) (T := T) (i := i) (k := k) (j := j)
  show (iW g T i k j ++ (if _ then _ else [])).length ≤ _
  rw [List.length_append]
  split
  ·rw [List.length_singleton]; omega
  ·show _ + 0 ≤ _; omega
theorem zS {g : bG} {T : List cK} {i : Nat} : ∀ {k : Nat}, (lT g T i k).length ≤ k * (nodeAt g i).next.length
 | 0 => Nat.zero_le _
 | k + 1 => by
  have ih := zS (g := g) (T := T) (i := i) (k := k)
  have := zF (g := g) (T := T) (i := i) (k := k) (j := (nodeAt g i).next.length)
  show (lT g T i k ++ iW g T i k _).length ≤ _
  rw [List.length_append, Nat.succ_mul]
  omega
theorem aDi {g : bG} {T : List cK} (G : fP g) : ∀ {i : Nat}, i ≤ g.nodes.length → (iB g T i).length ≤ i * 1000000
 | 0, _ => Nat.zero_le _
 | i + 1, hi => by
  have ih := aDi (T := T) G (i := i) (by omega)
  have h1 := zS (g := g) (T := T) (i := i) (k := (nodeAt g i).next.length)
  have h2 : (nodeAt g i).next.length * (nodeAt g i).next.length ≤ 1000 * 1000 := Nat.mul_le_mul (G.nxt i (by omega)) (G.nxt i (by omega))
  have e : (if (nodeAt g i).kind = 1 then lT g T i (nodeAt g i).next.length else []).length ≤ 1000 * 1000 := by
   split
   ·exact Nat.le_trans h1 h2
   ·exact Nat.zero_le _
  show (iB g T i ++ (if _ then _ else [])).length ≤ _
  rw [List.length_append]
  clear h1 h2 hi
  omega
theorem aFr {ps : Int} {ni : Nat} {x : cM} (h : iA ps ni x = 0) : x.weights.length ≤ 1000 := by
 unfold iA at h
 split at h
 ·split at h
  ·cases h
  ·rename_i hb
   unfold qG at hb
   omega
 ·split at h
  ·split at h
   ·cases h
   ·rename_i hb
    unfold uW at hb
    omega
  ·split at h
   ·split at h
    ·cases h
    ·rename_i hb
     unfold rJ at hb
     omega
   ·cases h
theorem aBP {g : bG} (h : dF g = 0) {i : Nat} (hi : i < g.nodes.length) : iA g.players g.infos.length (nodeAt g i) = 0 := by
 unfold dF at h
 split at h
 ·cases h
 split at h
 ·rename_i h1; exact absurd h h1
 rename_i hN
 exact jO (Decidable.not_not.1 hN) _ (List.mem_of_getElem? (dU hi))
set_option maxHeartbeats 16000000 in
theorem aGv {S : St} {nv iv : AV} {g : bG} (H : Has fns) (hn : aQ 6 cO S nv g.nodes) (hi : aQ 2 dB S iv g.infos) (hln : g.nodes.length ≤ 100000) :
  iQ fns (.fn 63 [] []) [.agg [.int .i64 g.players, nv, iv]] S fun r S' => Same S S' ∧ ∃ v, r = .tup [v, .int .i64 (dF g)] ∧ (dF g ≠ 0 → v = .nilsl) ∧ (dF g = 0 → ∃ T, iC g = some T ∧ T.length = g.nodes.length ∧ aQ 1 SlE S' v (iB g T g.nodes.length) ∧ ∀ X' : St, S'.nx ≤ X'.nx → (∀ c, c < S'.nx → S.nx ≤ c → X'.h.get c = S'.h.get c) → aQ 1 SlE X' v (iB g T g.nodes.length)) := by
 have snv := aQ.self hn
 refine cW H.f63 (by simp) ?_
 simp only [↓sU,sD,rE,↓reduceIte,rA]
 refine cI ?_
 refine eY (cs := [.int .i64 g.players, nv, iv]) rfl ?_
 intro S1 s1 n1 g1
 simp only [↓sU,sD,rE,↓reduceIte,rA]
 refine cI ?_
 simp only [↓sU,sD,rE,↓reduceIte,rA, iY g1]
 refine bL ?_
 simp only [↓sU,sD,rE,↓reduceIte,rA]
 refine aW (aBd H (aQ.same (E := cO) cB hn s1) (aQ.same (E := dB) cU hi s1) hln) ?_
 rintro _ S2 ⟨s2, p, rfl, hlook⟩
 simp only [↓sU,sD,rE,↓reduceIte,rA, ex0, ex1]
 have s12 := s1.trans s2
 refine kK ?_
 simp only [↓sU,sD,rE,↓reduceIte,rA]
 by_cases h0 : dF g = 0
 rotate_left
 ·refine bB (by simp only [↓sU,sD,rE,↓reduceIte,rA, decide_eq_true (show dF g ≠ 0 from h0)]) ?_
  refine cI ?_
  simp only [↓sU,sD,rE,↓reduceIte,rA]
  refine aY ?_
  simp only [↓sU,sD,rE,↓reduceIte,rA]
  exact ⟨s12, .nilsl, rfl, fun _ => rfl, fun h => absurd h h0⟩
 refine aX (by simp only [↓sU,sD,rE,↓reduceIte,rA, decide_eq_false (show ¬ dF g ≠ 0 from fun h => h h0)]) (aO ?_)
 try simp only [↓sU,sD,rE,↓reduceIte,rA]
 obtain ⟨wb, plb, szb, pv0, T, rfl, hwb, hT, hTl, hpv, hB⟩ := hlook h0
 have G := jX h0
 have K := aJV h0
 have hN2 := G.n2
 have hn2 := aQ.same (E := cO) cB hn s12
 have hi2 := aQ.same (E := dB) cU hi s12
 have g2 := (s2.2 _ (show S.nx < S1.nx by omega)).trans g1
 have hwl : ∀ i, i < g.nodes.length → (nodeAt g i).weights.length ≤ 1000 := fun i hi => aFr (aBP h0 hi)
 refine cI ?_
 simp only [↓sU,sD,rE,↓reduceIte,rA]
 refine kK ?_
 simp only [↓sU,sD,rE,↓reduceIte,rA, aB, aA, lI g2, hn2.len, snv]
 refine bP (Q := fun o A' X => o = .normal ∧ aK6 S2 wb nv g T 0 A' X) (bE (cS (aK6 S2 wb nv g T) ?_ g.nodes.length _ _ ⟨rfl, 0, .nilsl, [], by omega, ⟨Same.refl _, .inl ⟨rfl, rfl, rfl⟩, ⟨rfl, fun j hj => absurd hj (Nat.not_lt_zero j)⟩, by simp only [↓sU,sD,rE,↓reduceIte,rA], by simp only [↓sU,sD,rE,↓reduceIte,rA]; try rfl, by simp only [↓sU,sD,rE,↓reduceIte,rA]; try rfl, by simp only [↓sU,sD,rE,↓reduceIte,rA]; try rfl, by simp only [↓sU,sD,rE,↓reduceIte,rA]; try rfl⟩⟩)) ?_
 rotate_left
 ·rintro o ⟨F, inr⟩ X ⟨rfl, q0, i, pv, cs, hik, hS⟩
  simp only at q0 hS
  subst q0
  obtain rfl : i = g.nodes.length := by omega
  try simp only [↓sU,sD,rE,↓reduceIte,rA]
  refine cI ?_
  simp only [↓sU,sD,rE,↓reduceIte,rA, hS.t6]
  refine aY ?_
  simp only [↓sU,sD,rE,↓reduceIte,rA]
  refine ⟨s12.trans hS.same, pv, by rw [h0], fun h => absurd h0 h, fun _ => ⟨T, hT, hTl, hS.rw.is hS.gr rfl, fun X' hn' hk' => ?_⟩⟩
  have n12 := s12.1
  have hr' : aAp S2 X' pv cs (iB g T g.nodes.length) := ⟨hS.rw.1, fun j hj => by
   obtain ⟨r, h1, h2, h3⟩ := hS.rw.2 j hj
   exact ⟨r, h1, fN h2 hn' fun c hc => hk' c (eM h2 hc) (Nat.le_trans n12 (h3 c hc).1), h3⟩⟩
  exact hr'.is (hS.gr.move hn' fun c hc => hk' c (hS.gr.blk hc).2.1 (Nat.le_trans n12 (hS.gr.blk hc).1)) rfl
 rintro k ⟨F, inr⟩ V ⟨q0, i, pv, cs, hik, hS⟩
 simp only at q0 hS
 subst q0
 refine cI ?_
 simp only [↓sU,sD,rE,↓reduceIte,rA, hS.t25, hS.t26]
 by_cases hlt : i < g.nodes.length
 rotate_left
 ·refine aE (aX (by simp only [↓sU,sD,rE,↓reduceIte,rA, decide_eq_false (show ¬ (i : Int) < ((g.nodes.length : Nat) : Int) by omega)]) (cL ?_))
  simp only [↓sU,sD,rE,↓reduceIte,rA]
  obtain rfl : k = 0 := by omega
  exact ⟨rfl, i, pv, cs, hik, hS.step (Same.refl _) (by simp only [↓sU,sD,rE,↓reduceIte,rA]) (by simp only [↓sU,sD,rE,↓reduceIte,rA]) (by simp only [↓sU,sD,rE,↓reduceIte,rA]) (by simp only [↓sU,sD,rE,↓reduceIte,rA]) (by simp only [↓sU,sD,rE,↓reduceIte,rA])⟩
 refine aE (bB (by simp only [↓sU,sD,rE,↓reduceIte,rA, decide_eq_true (show (i : Int) < ((g.nodes.length : Nat) : Int) by omega)]) (aO ?_))
 try simp only [↓sU,sD,rE,↓reduceIte,rA]
 obtain ⟨_, bx, qx, hiax, hbx, _, ⟨xa, xw, xp, rfl, hxa, hxw, hxp⟩, hldx, _⟩ := aQ.at hn2 (by decide) (dU hlt)
 rw [← wH hS.same hbx] at hldx
 have w0 : IntKind.i64.wrap ((i : Int) + 1) = ((i + 1 : Nat) : Int) := by rw [wrap_i64 (by omega) (by omega)]; omega
 refine aE (bE (aE (aR ?_)))
 simp only [↓aJ,aH,rE,↓reduceIte, rA, hS.t24, hS.t26, aL, hiax, hldx]
 refine dD ?_
 intro W1 v1 k1 h1
 try simp only [↓aJ,aH,rE,↓reduceIte, rA]
 refine eH (b := V.nx) (by simp only [↓aJ,aH,rE,↓reduceIte, rA]) (by simp only [↓aJ,aH,rE,↓reduceIte, rA]; exact bK _) h1 rfl rfl ?_
 intro Y v2 k2 h2
 simp only [↓aJ,aH,rE,↓reduceIte, rA]
 have sVY : Same V Y := v2.same v1 (Nat.le_refl _)
 have lxY : V.nx < Y.nx := by omega
 have nV := hS.same.1
 clear v1 v2 h1 k1
 refine kK ?_
 simp only [↓sU,sD,rE,↓reduceIte,rA, aB, aA, fG h2]
 by_cases hk1 : (nodeAt g i).kind = 1
 rotate_left
 ·refine bB (by simp only [↓sU,sD,rE,↓reduceIte,rA, decide_eq_true (show (nodeAt g i).kind ≠ 1 from hk1)]) (cL ?_)
  simp only [↓sU,sD,rE,↓reduceIte,rA]
  refine aR ?_
  simp only [↓sU,sD,rE,↓reduceIte,rA, hS.t26, w0]
  have e : iB g T (i + 1) = iB g T i := by
   show iB g T i ++ (if _ then _ else []) = _
   rw [if_neg hk1, List.append_nil]
  have hS' := hS.step (F' := F) sVY rfl rfl rfl rfl rfl
  refine ⟨k - 1, by omega, rfl, i + 1, pv, cs, by omega, ?_⟩
  rw [e]
  exact ⟨hS'.same, hS'.gr, hS'.rw, by simp only [↓sU,sD,rE,↓reduceIte,rA, hS.t4], by simp only [↓sU,sD,rE,↓reduceIte,rA, hS.t6], by simp only [↓sU,sD,rE,↓reduceIte,rA, hS.t24], by simp only [↓sU,sD,rE,↓reduceIte,rA, hS.t25], by simp only [↓sU,sD,rE,↓reduceIte,rA]⟩
 refine aX (by simp only [↓sU,sD,rE,↓reduceIte,rA, decide_eq_false (show ¬ (nodeAt g i).kind ≠ 1 from fun h => h hk1)]) (aO ?_)
 try simp only [↓sU,sD,rE,↓reduceIte,rA]
 have e1 : iB g T (i + 1) = iB g T i ++ lT g T i (nodeAt g i).next.length := by
  show iB g T i ++ (if _ then _ else []) = _
  rw [if_pos hk1]
 have hwn := G.wts i hlt hk1
 have hnx := G.nxt i hlt
 have sxa := bS.self hxa
 refine cI ?_
 simp only [↓sU,sD,rE,↓reduceIte,rA, aB, aA, fI h2, (hxa.same (hS.same.trans sVY)).len, sxa]
 generalize hcells : [AV.int .i64 (nodeAt g i).kind, .int .i64 (nodeAt g i).player, .int .i64 (nodeAt g i).info, xa, xw, xp] = cells at h2
 refine bP (Q := fun o A' X => o = .normal ∧ aK2 S2 wb V.nx nv xa g T cells i 0 A' X) (bE (cS (aK2 S2 wb V.nx nv xa g T cells i) ?_ (nodeAt g i).next.length _ _ ⟨rfl, lxY, h2, 0, pv, cs, by omega, ?_, by simp only [↓sU,sD,rE,↓reduceIte,rA], by simp only [↓sU,sD,rE,↓reduceIte,rA], by simp only [↓sU,sD,rE,↓reduceIte,rA]; try rfl, by simp only [↓sU,sD,rE,↓reduceIte,rA]; try rfl⟩)) ?_
 rotate_left
 ·show SwH S2 Y wb nv g pv cs (iB g T i ++ []) i _
  rw [List.append_nil]
  exact hS.step sVY (by simp only [↓sU,sD,rE,↓reduceIte,rA]) (by simp only [↓sU,sD,rE,↓reduceIte,rA]) (by simp only [↓sU,sD,rE,↓reduceIte,rA]) (by simp only [↓sU,sD,rE,↓reduceIte,rA]) (by simp only [↓sU,sD,rE,↓reduceIte,rA])
 ·rintro o ⟨F, inr⟩ X ⟨rfl, q0, _, _, q, pv, cs, hqk, hSX, _⟩
  simp only at q0 hSX
  subst q0
  obtain rfl : q = (nodeAt g i).next.length := by omega
  try simp only [↓sU,sD,rE,↓reduceIte,rA]
  refine aR ?_
  simp only [↓sU,sD,rE,↓reduceIte,rA, hSX.t26, w0]
  refine ⟨k - 1, by omega, rfl, i + 1, pv, cs, by omega, ?_⟩
  rw [e1]
  exact ⟨hSX.same, hSX.gr, hSX.rw, by simp only [↓sU,sD,rE,↓reduceIte,rA, hSX.t4], by simp only [↓sU,sD,rE,↓reduceIte,rA, hSX.t6], by simp only [↓sU,sD,rE,↓reduceIte,rA, hSX.t24], by simp only [↓sU,sD,rE,↓reduceIte,rA, hSX.t25], by simp only [↓sU,sD,rE,↓reduceIte,rA]⟩
 clear hS h2 sVY hldx e1 w0 hik
 rintro k2 ⟨F, inr⟩ X ⟨q0, lxX, hX, q, pv, cs, hqk, hS, t8, t34, t35, t36⟩
 simp only at q0 hS t8 t34 t35 t36
 subst q0
 refine cI ?_
 simp only [↓sU,sD,rE,↓reduceIte,rA, t35, t36]
 by_cases hql : q < (nodeAt g i).next.length
 rotate_left
 ·refine aE (aX (by simp only [↓sU,sD,rE,↓reduceIte,rA, decide_eq_false (show ¬ (q : Int) < (((nodeAt g i).next.length : Nat) : Int) by omega)]) (cL ?_))
  simp only [↓sU,sD,rE,↓reduceIte,rA]
  obtain rfl : k2 = 0 := by omega
  exact ⟨rfl, lxX, hX, q, pv, cs, hqk, hS.step (Same.refl _) (by simp only [↓sU,sD,rE,↓reduceIte,rA]) (by simp only [↓sU,sD,rE,↓reduceIte,rA]) (by simp only [↓sU,sD,rE,↓reduceIte,rA]) (by simp only [↓sU,sD,rE,↓reduceIte,rA]) (by simp only [↓sU,sD,rE,↓reduceIte,rA]), by simp only [↓sU,sD,rE,↓reduceIte,rA, t8], by simp only [↓sU,sD,rE,↓reduceIte,rA, t34], by simp only [↓sU,sD,rE,↓reduceIte,rA, t35], by simp only [↓sU,sD,rE,↓reduceIte,rA, t36]⟩
 refine aE (bB (by simp only [↓sU,sD,rE,↓reduceIte,rA, decide_eq_true (show (q : Int) < (((nodeAt g i).next.length : Nat) : Int) by omega)]) (aO ?_))
 try simp only [↓sU,sD,rE,↓reduceIte,rA]
 have hia := (hxa.same hS.same).iaddr hql
 have hla := (hxa.same hS.same).ld hql
 have w1 : IntKind.i64.wrap ((q : Int) + 1) = ((q + 1 : Nat) : Int) := by rw [wrap_i64 (by omega) (by omega)]; omega
 refine aE (bE (aE (aR ?_)))
 simp only [↓sU,sD,rE,↓reduceIte,rA, t34, t36, aL, hia, hla]
 refine cI ?_
 simp only [↓sU,sD,rE,↓reduceIte,rA, w1]
 have e2 : lT g T i (q + 1) = lT g T i q ++ iW g T i q (nodeAt g i).next.length := rfl
 refine bP (Q := fun o A' Z => o = .normal ∧ aJP S2 wb V.nx nv xa g T cells i q 0 A' Z) (bE (cS (aJP S2 wb V.nx nv xa g T cells i q) ?_ ((nodeAt g i).next.length - (q + 1)) _ _ ⟨rfl, lxX, hX, q + 1, pv, cs, by omega, by omega, ?_, by simp only [↓sU,sD,rE,↓reduceIte,rA, t8], by simp only [↓sU,sD,rE,↓reduceIte,rA, t34], by simp only [↓sU,sD,rE,↓reduceIte,rA, t35], by simp only [↓sU,sD,rE,↓reduceIte,rA, t36], by simp only [↓sU,sD,rE,↓reduceIte,rA], by simp only [↓sU,sD,rE,↓reduceIte,rA]; try rfl, by simp only [↓sU,sD,rE,↓reduceIte,rA]; try rfl⟩)) ?_
 rotate_left
 ·rw [aDf (Nat.le_refl _), List.append_nil]
  exact hS.step (Same.refl _) (by simp only [↓sU,sD,rE,↓reduceIte,rA]) (by simp only [↓sU,sD,rE,↓reduceIte,rA]) (by simp only [↓sU,sD,rE,↓reduceIte,rA]) (by simp only [↓sU,sD,rE,↓reduceIte,rA]) (by simp only [↓sU,sD,rE,↓reduceIte,rA])
 ·rintro o ⟨F, inr⟩ Z ⟨rfl, q0, lxZ, hZ, j, pv, cs, hjk, _, hSZ, t8, t34, t35, t36, _⟩
  simp only at q0 hSZ t8 t34 t35 t36
  subst q0
  obtain rfl : j = (nodeAt g i).next.length := by omega
  try simp only [↓sU,sD,rE,↓reduceIte,rA]
  refine aR ?_
  simp only [↓sU,sD,rE,↓reduceIte,rA, t36, w1]
  refine ⟨k2 - 1, by omega, rfl, lxZ, hZ, q + 1, pv, cs, by omega, ?_, by simp only [↓sU,sD,rE,↓reduceIte,rA, t8], by simp only [↓sU,sD,rE,↓reduceIte,rA, t34], by simp only [↓sU,sD,rE,↓reduceIte,rA, t35], by simp only [↓sU,sD,rE,↓reduceIte,rA]⟩
  rw [e2]
  exact hSZ.step (Same.refl _) (by simp only [↓sU,sD,rE,↓reduceIte,rA]) (by simp only [↓sU,sD,rE,↓reduceIte,rA]) (by simp only [↓sU,sD,rE,↓reduceIte,rA]) (by simp only [↓sU,sD,rE,↓reduceIte,rA]) (by simp only [↓sU,sD,rE,↓reduceIte,rA])
 clear hS hX lxX t8 t34 t35 t36 hia hla hqk e2
 rintro k3 ⟨F, inr⟩ X ⟨q0, lxX, hX, j, pv, cs, hjk, hqj, hS, t8, t34, t35, t36, t9, t10, t11⟩
 simp only at q0 hS t8 t34 t35 t36 t9 t10 t11
 subst q0
 rw [← hcells] at hX
 have hxaX := hxa.same hS.same
 have hxwX := hxw.same hS.same
 refine kK ?_
 simp only [↓sU,sD,rE,↓reduceIte,rA, t8, t11, aB, aA, fI hX, hxaX.len, Int.ofNat_eq_natCast]
 by_cases hjl : j < (nodeAt g i).next.length
 rotate_left
 ·refine aX (by simp only [↓sU,sD,rE,↓reduceIte,rA, decide_eq_false (show ¬ (j : Int) < (((nodeAt g i).next.length : Nat) : Int) by omega)]) (cL ?_)
  simp only [↓sU,sD,rE,↓reduceIte,rA]
  obtain rfl : k3 = 0 := by omega
  exact ⟨rfl, lxX, by rw [← hcells]; exact hX, j, pv, cs, hjk, hqj, hS.step (Same.refl _) (by simp only [↓sU,sD,rE,↓reduceIte,rA]) (by simp only [↓sU,sD,rE,↓reduceIte,rA]) (by simp only [↓sU,sD,rE,↓reduceIte,rA]) (by simp only [↓sU,sD,rE,↓reduceIte,rA]) (by simp only [↓sU,sD,rE,↓reduceIte,rA]), by simp only [↓sU,sD,rE,↓reduceIte,rA, t8], by simp only [↓sU,sD,rE,↓reduceIte,rA, t34], by simp only [↓sU,sD,rE,↓reduceIte,rA, t35], by simp only [↓sU,sD,rE,↓reduceIte,rA, t36], by simp only [↓sU,sD,rE,↓reduceIte,rA, t9], by simp only [↓sU,sD,rE,↓reduceIte,rA, t10], by simp only [↓sU,sD,rE,↓reduceIte,rA, t11]⟩
 refine bB (by simp only [↓sU,sD,rE,↓reduceIte,rA, decide_eq_true (show (j : Int) < (((nodeAt g i).next.length : Nat) : Int) by omega)]) (aO ?_)
 try simp only [↓sU,sD,rE,↓reduceIte,rA]
 have w2 : IntKind.i64.wrap ((j : Int) + 1) = ((j + 1 : Nat) : Int) := by rw [wrap_i64 (by omega) (by omega)]; omega
 obtain ⟨c1, c2⟩ := G.kids i hlt q hql
 obtain ⟨d1, d2⟩ := G.kids i hlt j hjl
 have P := aID G hT hTl hlt hqj hjl
 obtain ⟨pP, pla, plb', pnb, pza⟩ := P
 have hswOk : aF8 g T i q j ↔ (nodeAt g i).weights.getD q 0 = (nodeAt g i).weights.getD j 0 ∧ aD7 g T ((nodeAt g i).next.getD q 0).toNat ((nodeAt g i).next.getD j 0).toNat ∧ lL g (yU g.nodes.length ((nodeAt g i).next.getD q 0).toNat ((nodeAt g i).next.getD j 0).toNat (fR T ((nodeAt g i).next.getD q 0).toNat)) := Iff.rfl
 have hon := fun h => aEQ (g := g) (T := T) (i := i) hqj h
 have hoff := fun h => aIc (g := g) (T := T) (i := i) (k := q) (j := j) h
 obtain ⟨ck, hck⟩ : ∃ ck : Nat, (nodeAt g i).next.getD q 0 = (ck : Int) := ⟨_, (Int.toNat_of_nonneg (by omega)).symm⟩
 obtain ⟨cj, hcj⟩ : ∃ cj : Nat, (nodeAt g i).next.getD j 0 = (cj : Int) := ⟨_, (Int.toNat_of_nonneg (by omega)).symm⟩
 obtain ⟨bq, oq, iq, lq, dq⟩ := bS.ptr hxwX (show q < (nodeAt g i).weights.length by omega)
 obtain ⟨bj, oj, ij, lj, dj⟩ := bS.ptr hxwX (show j < (nodeAt g i).weights.length by omega)
 obtain ⟨ba, oa, iaa, laa, daa⟩ := bS.ptr hxaX hjl
 rw [hck] at t10
 rw [hcj] at daa
 simp only [hck, hcj, Int.toNat_natCast] at pP pla plb' pnb pza hswOk hon
 have sxw := bS.self hxw
 have sxa := bS.self hxa
 have stay : ∀ (F' : Fr) (Y : St), ¬ aF8 g T i q j → Same X Y → aC 4 F' = .ptr wb 0 → aC 6 F' = pv → aC 24 F' = nv → aC 25 F' = .int .i64 ((g.nodes.length : Nat) : Int) → aC 26 F' = .int .i64 (i : Int) → aC 8 F' = .ptr V.nx 0 → aC 34 F' = xa → aC 35 F' = .int .i64 (((nodeAt g i).next.length : Nat) : Int) → aC 36 F' = .int .i64 (q : Int) → aC 9 F' = .int .i64 (q : Int) → aC 10 F' = .int .i64 (ck : Int) → aC 11 F' = .int .i64 ((j + 1 : Nat) : Int) → ∃ k', k' < k3 ∧ aJP S2 wb V.nx nv xa g T cells i q k' ⟨F', false⟩ Y := fun F' Y hne hs a4 a6 a24 a25 a26 a8 a34 a35 a36 a9 a10 a11 =>
  ⟨k3 - 1, by omega, rfl, Nat.lt_of_lt_of_le lxX hs.1, by rw [← hcells]; exact (hs.2 _ lxX).trans hX, j + 1, pv, cs, by omega, by omega, by rw [hoff hne]; exact hS.step hs (by rw [a4, hS.t4]) (by rw [a6, hS.t6]) (by rw [a24, hS.t24]) (by rw [a25, hS.t25]) (by rw [a26, hS.t26]), a8, a34, a35, a36, a9, by rw [hck]; exact a10, a11⟩
 refine aE (bE (aE (aE (mT (fun _ => False) ?_))))
 intro X1 x1
 by_cases hwt : (nodeAt g i).weights.getD q 0 = (nodeAt g i).weights.getD j 0
 rotate_left
 ·simp only [↓sU,sD,rE,↓reduceIte,rA, t8, t9, t11, hS.t4, not_false_eq_true, aB, aN, aA, fM hX, sxw, lxX, aL, iq, lq, dq, ij, lj, dj, eU, decide_eq_true (show (nodeAt g i).weights.getD q 0 ≠ (nodeAt g i).weights.getD j 0 from hwt)]
  refine bB (by simp only [↓sU,sD,rE,↓reduceIte,rA]) (cL ?_)
  simp only [↓sU,sD,rE,↓reduceIte,rA]
  refine aR ?_
  simp only [↓sU,sD,rE,↓reduceIte,rA, t11, w2]
  exact stay _ _ (fun h => hwt (hswOk.1 h).1) x1 (by simp only [↓sU,sD,rE,↓reduceIte,rA, hS.t4]) (by simp only [↓sU,sD,rE,↓reduceIte,rA, hS.t6]) (by simp only [↓sU,sD,rE,↓reduceIte,rA, hS.t24]) (by simp only [↓sU,sD,rE,↓reduceIte,rA, hS.t25]) (by simp only [↓sU,sD,rE,↓reduceIte,rA, hS.t26]) (by simp only [↓sU,sD,rE,↓reduceIte,rA, t8]) (by simp only [↓sU,sD,rE,↓reduceIte,rA, t34]) (by simp only [↓sU,sD,rE,↓reduceIte,rA, t35]) (by simp only [↓sU,sD,rE,↓reduceIte,rA, t36]) (by simp only [↓sU,sD,rE,↓reduceIte,rA, t9]) (by simp only [↓sU,sD,rE,↓reduceIte,rA, t10]) (by simp only [↓sU,sD,rE,↓reduceIte,rA])
 have sX1 := hS.same.trans x1
 simp only [↓sU,sD,rE,↓reduceIte,rA, t8, t9, t10, t11, hS.t4, not_false_eq_true, aB, aN, aA, fI hX, fM hX, sxw, sxa, lxX, aL, iq, lq, dq, ij, lj, dj, iaa, laa, daa, eU, decide_eq_false (show ¬ (nodeAt g i).weights.getD q 0 ≠ (nodeAt g i).weights.getD j 0 from fun h => h hwt)]
 refine gE rfl ?_
 simp only [↓sU,sD,rE,↓reduceIte,rA]
 refine aW (aFD H G hT hTl (hB.same sX1) (aQ.same (E := cO) cB hn2 sX1) pla plb' hwl) ?_
 rintro _ Y ⟨hY, u, rfl, hu⟩
 refine ⟨hY, ?_⟩
 have sXY := x1.trans hY
 simp only [↓sU,sD,rE,↓reduceIte,rA, gO]
 cases u with
 | false =>
  refine bB (by simp only [↓sU,sD,rE,↓reduceIte,rA, Bool.not_false]) (cL ?_)
  simp only [↓sU,sD,rE,↓reduceIte,rA]
  refine aR ?_
  simp only [↓sU,sD,rE,↓reduceIte,rA, t11, w2]
  exact stay _ _ (fun h => by have := hu.2 (hswOk.1 h).2.1; cases this) sXY (by simp only [↓sU,sD,rE,↓reduceIte,rA, hS.t4]) (by simp only [↓sU,sD,rE,↓reduceIte,rA, hS.t6]) (by simp only [↓sU,sD,rE,↓reduceIte,rA, hS.t24]) (by simp only [↓sU,sD,rE,↓reduceIte,rA, hS.t25]) (by simp only [↓sU,sD,rE,↓reduceIte,rA, hS.t26]) (by simp only [↓sU,sD,rE,↓reduceIte,rA, t8]) (by simp only [↓sU,sD,rE,↓reduceIte,rA, t34]) (by simp only [↓sU,sD,rE,↓reduceIte,rA, t35]) (by simp only [↓sU,sD,rE,↓reduceIte,rA, t36]) (by simp only [↓sU,sD,rE,↓reduceIte,rA, t9]) (by simp only [↓sU,sD,rE,↓reduceIte,rA, t10]) (by simp only [↓sU,sD,rE,↓reduceIte,rA])
 | true =>
 have hal := hu.1 rfl
 refine aX (by simp only [↓sU,sD,rE,↓reduceIte,rA, Bool.not_true]) (aO ?_)
 try simp only [↓sU,sD,rE,↓reduceIte,rA]
 have hXY := (sXY.2 _ lxX).trans hX
 have sSY := hS.same.trans sXY
 have hxaY := hxa.same sSY
 have iaY := hxaY.iaddr hjl
 have daY := hxaY.ld hjl
 rw [hcj] at daY
 have hbn : cj + fR T ck ≤ g.nodes.length := by rw [hal.1]; exact pnb
 refine cI ?_
 simp only [↓sU,sD,rE,↓reduceIte,rA, t8, t10, t11, hS.t4, aB, aA, fI hXY, aL, iaY, daY]
 refine bL ?_
 simp only [↓sU,sD,rE,↓reduceIte,rA]
 refine aW (aHG H (hB.same sSY) (aQ.same (E := cO) cB hn2 sSY) hln pza pP hbn pla) ?_
 rintro r Y2 ⟨hr, hY2⟩
 try simp only [↓sU,sD,rE,↓reduceIte,rA]
 have sSY2 := sSY.trans hY2
 have M := aGz (g := g) pP hbn
 refine cI ?_
 simp only [↓aJ,aH,rE,↓reduceIte, rA, hS.t4]
 refine bL ?_
 simp only [↓aJ,aH,rE,↓reduceIte, rA, hS.t4]
 refine aW (aCk H (aQ.same (E := cO) cB hn2 sSY2) (aQ.same (E := dB) cU hi2 sSY2) hr.is G M hT hTl (hpv.same sSY2) (hB.same sSY2)) ?_
 rintro _ Y3 ⟨hY3, x, y, u, rfl, hu2, _⟩
 simp only [↓aJ,aH,rE,↓reduceIte, rA, ex0, ex1]
 refine dD ?_
 intro Y4 y4 n4 g4
 try simp only [↓aJ,aH,rE,↓reduceIte, rA]
 refine eH (b := Y3.nx) (by simp only [↓aJ,aH,rE,↓reduceIte, rA]) (by simp only [↓aJ,aH,rE,↓reduceIte, rA]; exact bK _) g4 rfl rfl ?_
 intro Y5 y5 n5 g5
 simp only [↓aJ,aH,rE,↓reduceIte, rA]
 have s35 : Same Y3 Y5 := y5.same y4 (Nat.le_refl _)
 have sX5 := ((sXY.trans hY2).trans hY3).trans s35
 clear y4 g4 y5 g5
 refine cI ?_
 simp only [↓sU,sD,rE,↓reduceIte,rA]
 cases u with
 | false =>
  refine aX (by simp only [↓sU,sD,rE,↓reduceIte,rA]) (aO ?_)
  try simp only [↓sU,sD,rE,↓reduceIte,rA]
  refine aR ?_
  simp only [↓sU,sD,rE,↓reduceIte,rA, t11, w2]
  exact stay _ _ (fun h => by have := hu2.2 (hswOk.1 h).2.2; cases this) sX5 (by simp only [↓sU,sD,rE,↓reduceIte,rA, hS.t4]) (by simp only [↓sU,sD,rE,↓reduceIte,rA, hS.t6]) (by simp only [↓sU,sD,rE,↓reduceIte,rA, hS.t24]) (by simp only [↓sU,sD,rE,↓reduceIte,rA, hS.t25]) (by simp only [↓sU,sD,rE,↓reduceIte,rA, hS.t26]) (by simp only [↓sU,sD,rE,↓reduceIte,rA, t8]) (by simp only [↓sU,sD,rE,↓reduceIte,rA, t34]) (by simp only [↓sU,sD,rE,↓reduceIte,rA, t35]) (by simp only [↓sU,sD,rE,↓reduceIte,rA, t36]) (by simp only [↓sU,sD,rE,↓reduceIte,rA, t9]) (by simp only [↓sU,sD,rE,↓reduceIte,rA, t10]) (by simp only [↓sU,sD,rE,↓reduceIte,rA])
 | true =>
 have hok := hswOk.2 ⟨hwt, hal, hu2.1 rfl⟩
 have hJ := hon hok
 refine bB (by simp only [↓sU,sD,rE,↓reduceIte,rA]) ?_
 obtain ⟨rb, hrb, r1, r2, r3⟩ := hr
 have hrow : bS .i64 Y5 r (yU g.nodes.length ck cj (fR T ck)) := (aAv.is ⟨rb, hrb, r1, r2, r3⟩ : bS .i64 Y2 r _).same (hY3.trans s35)
 have hbl := fun (F : Fr) (id : Nat) (h : aC 88 F = r) => aGN (t := 22) (z := .nilsl) (x := .t 88) (F := F) (id := id) hrow h
 refine aR ?_
 simp only [↓aJ,aH,rE,↓reduceIte, rA, hS.t6]
 refine kH (hbl _ _ (by simp only [↓aJ,aH,rE,↓reduceIte, rA])) ?_
 intro Y6 y6 n6 g6
 try simp only [↓aJ,aH,rE,↓reduceIte, rA]
 have hpb : ∀ {c}, aP pv = some c → S2.nx ≤ c := fun hc => (hS.gr.blk hc).1
 have nX := hS.same.1
 have n5X := sX5.1
 have hg6 : gQ 1 S2 Y6 pv (iB g T i ++ (lT g T i q ++ iW g T i q j)).length cs := (hS.gr.step sX5).step y6
 have hlen : (iB g T i ++ (lT g T i q ++ iW g T i q j)).length + 1 ≤ 3000000000 := by
  have a1 := aDi (T := T) G (Nat.le_of_lt hlt)
  have a2 := zS (g := g) (T := T) (i := i) (k := q)
  have a3 := zF (g := g) (T := T) (i := i) (k := q) (j := j)
  have a4 : q * (nodeAt g i).next.length ≤ 1000 * 1000 := Nat.mul_le_mul (by omega) hnx
  rw [List.length_append, List.length_append]
  omega
 obtain ⟨pv', Z, eA, gA, bA, nA, rA⟩ := gQ.push1 (bytes := 24) (x := r) hg6 ((hS.same.trans sX5).trans y6) g6 (by unfold room; omega) (by unfold room; omega)
 refine fZ (v := pv') (S1 := Z) (fun call => by simp only [↓aJ,aH,rE,↓reduceIte, rA, gH]; exact eA) ?_
 simp only [↓sU,sD,rE,↓reduceIte,rA]
 refine aR ?_
 simp only [↓sU,sD,rE,↓reduceIte,rA, t11, w2]
 have n6X := y6.1
 have hbA : ∀ {c}, aP pv' = some c → c = Y6.nx := fun hc => by rw [bA] at hc; exact (Option.some.inj hc).symm
 have nbp : aP pv ≠ some V.nx := fun e => aNj hX (hS.gr.blk e).2.2 rfl
 have kZ : ∀ c, c < X.nx → aP pv ≠ some c → Z.h.get c = X.h.get c := fun c hc hne => by
  rw [rA c (by omega) hne, y6.2 c (by omega)]
  exact sX5.2 c hc
 have nXY : X.nx ≤ Y.nx := sXY.1
 have r1' : Y.nx ≤ rb := r1
 have hrY : X.nx ≤ rb := by omega
 have hR := hS.rw.push (Z := Z) (pv' := pv') (r := r) (l := yU g.nodes.length ck cj (fR T ck)) nX (by omega) (fun c a _ d => kZ c a d) (fN (hrow.same y6) (by omega) fun c hc => by
  rw [hrb] at hc
  cases hc
  exact rA _ (by have := hY3.1; have := s35.1; omega) fun e => by have := (hS.gr.blk e).2.1; omega) (fun c hc => by
  rw [hrb] at hc
  cases hc
  exact ⟨hrY, fun e => by have := hbA e; have := hY3.1; have := s35.1; omega⟩) (fun c hc => by have := hbA hc; omega)
 refine ⟨k3 - 1, by omega, rfl, by omega, by rw [← hcells]; exact (kZ _ lxX nbp).trans hX, j + 1, pv', cs ++ [r], by omega, by omega, ?_, by simp only [↓sU,sD,rE,↓reduceIte,rA, t8], by simp only [↓sU,sD,rE,↓reduceIte,rA, t34], by simp only [↓sU,sD,rE,↓reduceIte,rA, t35], by simp only [↓sU,sD,rE,↓reduceIte,rA, t36], by simp only [↓sU,sD,rE,↓reduceIte,rA, t9], by simp only [↓sU,sD,rE,↓reduceIte,rA, t10, hck], by simp only [↓sU,sD,rE,↓reduceIte,rA]⟩
 have eL : iB g T i ++ (lT g T i q ++ iW g T i q (j + 1)) = (iB g T i ++ (lT g T i q ++ iW g T i q j)) ++ [yU g.nodes.length ck cj (fR T ck)] := by
  rw [hJ, List.append_assoc, List.append_assoc]
 rw [eL]
 refine ⟨⟨by omega, fun c hc => (kZ c (by omega) (fun e => by have := hpb e; omega)).trans (hS.same.2 c hc)⟩, ?_, hR, by simp only [↓sU,sD,rE,↓reduceIte,rA, hS.t4], by simp only [↓sU,sD,rE,↓reduceIte,rA], by simp only [↓sU,sD,rE,↓reduceIte,rA, hS.t24], by simp only [↓sU,sD,rE,↓reduceIte,rA, hS.t25], by simp only [↓sU,sD,rE,↓reduceIte,rA, hS.t26]⟩
 rw [List.length_append, List.length_singleton]
 exact gA
end Go.Ev.Gl
namespace Go.Ev.Gl
variable {fns : T cA}
def shN (f s : Int) (x : cM) : cM := ⟨x.kind, x.player, if x.kind = 2 then x.info + s else x.info, x.next.map (· + f), x.weights, x.pay⟩
def iO (one : bG) (seen : Bool) (c : Nat) : Nat := if seen = true then c * one.infos.length else 0
def mY (one : bG) (seen : Bool) (c : Nat) : List cM := one.nodes.map (shN ((1 + c * one.nodes.length : Nat) : Int) ((iO one seen c : Nat) : Int))
def iT (one : bG) (seen : Bool) : Nat → List cM
 | 0 => []
 | c + 1 => iT one seen c ++ mY one seen c
def kC (n c : Nat) : List Int := (List.range c).map fun j : Nat => ((1 + j * n : Nat) : Int)
def aGA (n c : Nat) : cM := ⟨1, 0, 0, kC n c, List.replicate c 1, []⟩
def iI (one : bG) (seen : Bool) : Nat → List gR
 | 0 => []
 | c + 1 => if c = 0 ∨ seen = true then iI one seen c ++ one.infos else iI one seen c
def dC (one : bG) (c : Nat) (seen : Bool) : bG := ⟨one.players, aGA one.nodes.length c :: iT one seen c, iI one seen c⟩
section
variable {one : bG} {seen : Bool}
theorem uE {c : Nat} : (mY one seen c).length = one.nodes.length := by unfold mY; rw [List.length_map]
theorem jN : ∀ {c : Nat}, (iT one seen c).length = c * one.nodes.length
 | 0 => by rw [Nat.zero_mul]; rfl
 | c + 1 => by
  show (iT one seen c ++ mY one seen c).length = _
  rw [List.length_append, jN (c := c), uE, Nat.succ_mul]
theorem aCa {j t : Nat} : ∀ {c : Nat}, j < c → t < one.nodes.length → (iT one seen c)[j * one.nodes.length + t]? = some (shN ((1 + j * one.nodes.length : Nat) : Int) ((iO one seen j : Nat) : Int) (nodeAt one t))
 | 0, h, _ => absurd h (Nat.not_lt_zero _)
 | c + 1, h, ht => by
  show (iT one seen c ++ mY one seen c)[_]? = _
  by_cases e : j = c
  ·subst e
   rw [List.getElem?_append_right (by rw [jN]; omega), jN, Nat.add_sub_cancel_left]
   unfold mY
   rw [List.getElem?_map, dU ht]
   rfl
  ·have h1 : (j + 1) * one.nodes.length ≤ c * one.nodes.length := Nat.mul_le_mul_right _ (by omega)
   rw [Nat.succ_mul] at h1
   rw [List.getElem?_append_left (by rw [jN]; omega)]
   exact aCa (c := c) (by omega) ht
theorem oG {c : Nat} : (dC one c seen).nodes.length = 1 + c * one.nodes.length := by
 show (_ :: iT one seen c).length = _
 rw [List.length_cons, jN, Nat.add_comm]
theorem lW {c j t : Nat} (hj : j < c) (ht : t < one.nodes.length) : nodeAt (dC one c seen) (1 + j * one.nodes.length + t) = shN ((1 + j * one.nodes.length : Nat) : Int) ((iO one seen j : Nat) : Int) (nodeAt one t) := by
 refine vS ?_
 show (_ :: iT one seen c)[1 + j * one.nodes.length + t]? = _
 rw [show 1 + j * one.nodes.length + t = (j * one.nodes.length + t) + 1 by omega, List.getElem?_cons_succ]
 exact aCa hj ht
theorem aFX {c i : Nat} (h0 : 0 < i) (hi : i < 1 + c * one.nodes.length) : ∃ j t, j < c ∧ t < one.nodes.length ∧ i = 1 + j * one.nodes.length + t := by
 have hn : 0 < one.nodes.length := by
  rcases Nat.eq_zero_or_pos one.nodes.length with h | h
  ·rw [h, Nat.mul_zero] at hi; omega
  ·exact h
 refine ⟨(i - 1) / one.nodes.length, (i - 1) % one.nodes.length, ?_, Nat.mod_lt _ hn, ?_⟩
 ·rw [Nat.div_lt_iff_lt_mul hn]; omega
 ·have := Nat.div_add_mod (i - 1) one.nodes.length
  rw [Nat.mul_comm] at this
  omega
theorem jI (hs : seen = true) : ∀ {c : Nat}, (iI one seen c).length = c * one.infos.length
 | 0 => by rw [Nat.zero_mul]; rfl
 | c + 1 => by
  show (if c = 0 ∨ seen = true then iI one seen c ++ one.infos else iI one seen c).length = _
  rw [if_pos (.inr hs), List.length_append, jI hs (c := c), Nat.succ_mul]
theorem qP (hs : seen = false) : ∀ {c : Nat}, 0 < c → iI one seen c = one.infos
 | 0, h => absurd h (Nat.not_lt_zero _)
 | c + 1, _ => by
  show (if c = 0 ∨ seen = true then iI one seen c ++ one.infos else iI one seen c) = _
  by_cases e : c = 0
  ·subst e
   rw [if_pos (.inl rfl)]
   exact List.nil_append _
  ·rw [if_neg (by rw [hs]; rintro (h | h); exact e h; cases h)]
   exact qP hs (by omega)
theorem aHM {j i : Nat} (hi : i < one.infos.length) : ∀ {c : Nat}, j < c → (iI one seen c)[i + iO one seen j]? = one.infos[i]? := by
 intro c hj
 cases hs : seen with
 | false =>
  rw [qP rfl (by omega)]
  unfold iO
  rw [if_neg (by decide), Nat.add_zero]
 | true =>
  unfold iO
  rw [if_pos rfl]
  induction c with
  | zero => omega
  | succ c ih =>
   show (if c = 0 ∨ true = true then iI one true c ++ one.infos else iI one true c)[_]? = _
   rw [if_pos (.inr rfl)]
   by_cases e : j = c
   ·subst e
    rw [List.getElem?_append_right (by rw [jI rfl]; omega), jI rfl, Nat.add_sub_cancel]
   ·have h1 : (j + 1) * one.infos.length ≤ c * one.infos.length := Nat.mul_le_mul_right _ (by omega)
    rw [Nat.succ_mul] at h1
    rw [List.getElem?_append_left (by rw [jI rfl]; omega)]
    exact ih (by omega)
end
theorem aBr {rec0 rec : Nat → Option (List cK)} {a : Nat} (hr : ∀ (r : Nat) (L0 : List cK), rec0 r = some L0 → ∃ L, rec (a + r) = some L ∧ L.length = L0.length ∧ L.map (fun t : cK => t.2.1) = L0.map fun t : cK => t.2.1) : ∀ {l : List Int} {r : Nat} {L0 : List cK}, fF rec0 l r = some L0 → ∃ L, fF rec (l.map (· + (a : Int))) (a + r) = some L ∧ L.length = L0.length ∧ L.map (fun t : cK => t.2.1) = L0.map fun t : cK => t.2.1
 | [], r, L0, h => by
  have h : some [] = some L0 := h
  cases h
  exact ⟨[], rfl, rfl, rfl⟩
 | c :: l, r, L0, h => by
  simp only [fF] at h
  split at h
  ·rename_i hc
   obtain ⟨L1, h1, h2⟩ := Option.bind_eq_some_iff.1 h
   obtain ⟨L2, h3, rfl⟩ := Option.map_eq_some_iff.1 h2
   obtain ⟨M1, e1, e2, e3⟩ := hr r L1 h1
   obtain ⟨M2, f1, f2, f3⟩ := aBr hr h3
   refine ⟨M1 ++ M2, ?_, by rw [List.length_append, List.length_append, e2, f2], by rw [List.map_append, List.map_append, e3, f3]⟩
   show (if c + (a : Int) = ((a + r : Nat) : Int) then (rec (a + r)).bind fun L1 => (fF rec (l.map (· + (a : Int))) (a + r + L1.length)).map (L1 ++ ·) else none) = _
   rw [if_pos (by omega), e1]
   show (fF rec (l.map (· + (a : Int))) (a + r + M1.length)).map (M1 ++ ·) = _
   rw [e2, show a + r + L1.length = a + (r + L1.length) by omega, f1]
   rfl
  ·cases h
theorem aBT {N0 N a : Nat} {nx0 nx : Nat → List Int} (hN : a + N0 ≤ N) (hnx : ∀ j, j < N0 → nx (a + j) = (nx0 j).map (· + (a : Int))) : ∀ {f i : Nat} {p q d : Int} {L0 : List cK}, eR N0 nx0 f i p d = some L0 → ∃ L, eR N nx f (a + i) q d = some L ∧ L.length = L0.length ∧ L.map (fun t : cK => t.2.1) = L0.map fun t : cK => t.2.1
 | 0, _, _, _, _, _, h => by cases h
 | f + 1, i, p, q, d, L0, h => by
  simp only [eR] at h
  split at h
  ·rename_i hi
   obtain ⟨L, h1, rfl⟩ := Option.map_eq_some_iff.1 h
   obtain ⟨M, e1, e2, e3⟩ := aBr (rec := fun r => eR N nx f r ((a + i : Nat) : Int) (d + 1)) (a := a) (fun r L0 hL => aBT hN hnx hL) h1
   refine ⟨(q, d, ((a + i + M.length : Nat) : Int)) :: M, ?_, by rw [List.length_cons, List.length_cons, e2], by rw [List.map_cons, List.map_cons, e3]⟩
   simp only [eR]
   rw [if_pos (by omega), hnx i hi, show a + i + 1 = a + (i + 1) by omega, e1]
   rfl
  ·cases h
theorem pJ.shift {k a : Nat} {s : Int} {B : List cM} (h : pJ k 0 B) : pJ k a (B.map (shN (a : Int) s)) := by
 refine ⟨by rw [List.length_map]; exact h.1, fun N nx hN hnx f p d hf => ?_⟩
 rw [List.length_map] at hN hf
 obtain ⟨L0, h1, h2, h3⟩ := h.2 B.length (fun i => ((B[i]?).map (·.next)).getD []) (by omega) (fun i x hi => by
  show ((B[0 + i]?).map (·.next)).getD [] = _
  rw [Nat.zero_add, hi]; rfl) f p d hf
 obtain ⟨L, e1, e2, e3⟩ := aBT (N := N) (a := a) (nx := nx) (q := p) hN (fun j hj => by
  have := hnx j (shN (a : Int) s B[j]) (by rw [List.getElem?_map, List.getElem?_eq_getElem hj]; rfl)
  rw [this, List.getElem?_eq_getElem hj]
  rfl) h1
 refine ⟨L, e1, by rw [e2, h2, List.length_map], fun t ht => ?_⟩
 have hm : t.2.1 ∈ L0.map fun t : cK => t.2.1 := by rw [← e3]; exact List.mem_map.2 ⟨t, ht, rfl⟩
 obtain ⟨u, hu, he⟩ := List.mem_map.1 hm
 have := h3 u hu
 omega
theorem eJ.le {l : List (Option Nat)} {n : Nat} (h : eJ l n) : n ≤ l.length := by
 induction h with
 | nil => exact Nat.le_refl _
 | none _ ih => rw [List.length_append]; omega
 | old _ _ ih => rw [List.length_append]; omega
 | new _ ih => rw [List.length_append, List.length_singleton]; omega
theorem eJ.lt {l : List (Option Nat)} {n : Nat} (h : eJ l n) : ∀ i, some i ∈ l → i < n := by
 induction h with
 | nil => intro i hi; cases hi
 | none _ ih =>
  intro i hi
  rcases List.mem_append.1 hi with h | h
  ·exact ih i h
  ·have := List.mem_singleton.1 h; cases this
 | old _ hlt ih =>
  intro i hi
  rcases List.mem_append.1 hi with h | h
  ·exact ih i h
  ·have := List.mem_singleton.1 h; cases this; exact hlt
 | new _ ih =>
  intro i hi
  rcases List.mem_append.1 hi with h | h
  ·have := ih i h; omega
  ·have := List.mem_singleton.1 h; cases this; omega
theorem eJ.app {l l' : List (Option Nat)} {n n' : Nat} (h : eJ l n) (h' : eJ l' n') : eJ (l ++ l'.map (Option.map (· + n))) (n + n') := by
 induction h' with
 | nil => rw [List.map_nil, List.append_nil]; exact h
 | none _ ih => rw [List.map_append, ← List.append_assoc]; exact ih.none
 | old _ hlt ih => rw [List.map_append, ← List.append_assoc]; exact ih.old (by show _ + n < _; omega)
 | @new l'' n'' _ ih =>
  rw [List.map_append, ← List.append_assoc]
  have := ih.new
  rw [show n + n'' = n'' + n by omega] at this
  show eJ (_ ++ [some (n'' + n)]) _
  rw [show n + (n'' + 1) = n'' + n + 1 by omega]
  exact this
theorem eJ.same : ∀ {l' l : List (Option Nat)} {n : Nat}, eJ l n → (∀ i, some i ∈ l' → i < n) → eJ (l ++ l') n
 | [], l, n, h, _ => by rw [List.append_nil]; exact h
 | x :: l', l, n, h, h' => by
  rw [List.append_cons]
  refine eJ.same ?_ fun i hi => h' i (List.mem_cons_of_mem _ hi)
  cases x with
  | none => exact h.none
  | some i => exact h.old (h' i (List.mem_cons_self ..))
end Go.Ev.Gl
namespace Go.Ev.Gl
variable {fns : T cA}
structure sH (one : bG) : Prop where
 prs : 1 ≤ one.players ∧ one.players ≤ 4
 n1 : 1 ≤ one.nodes.length
 n2 : one.nodes.length ≤ 60
 form : dF one = 0
 ok : ∀ x ∈ one.nodes, jK one.players one.infos x
 sub : ∃ k, k ≤ 5 ∧ pJ k 0 one.nodes
 ord : eJ (one.nodes.map vF) one.infos.length
section
variable {one : bG} {seen : Bool}
theorem aCr {x : cM} : ∀ {c : Nat}, x ∈ iT one seen c → ∃ j y, j < c ∧ y ∈ one.nodes ∧ x = shN ((1 + j * one.nodes.length : Nat) : Int) ((iO one seen j : Nat) : Int) y
 | 0, h => by cases h
 | c + 1, h => by
  rcases List.mem_append.1 h with h | h
  ·obtain ⟨j, y, a, b, e⟩ := aCr h
   exact ⟨j, y, by omega, b, e⟩
  ·obtain ⟨y, b, e⟩ := List.mem_map.1 h
   exact ⟨c, y, Nat.lt_succ_self _, b, e.symm⟩
theorem aLI {c j : Nat} {y : cM} {f : Int} (hj : j < c) (h : jK one.players one.infos y) : jK one.players (iI one seen c) (shN f ((iO one seen j : Nat) : Int) y) := by
 have hl : (shN f ((iO one seen j : Nat) : Int) y).next.length = y.next.length := List.length_map ..
 rcases h with h | h | h
 ·refine .inl ⟨h.kind, h.player, ?_, ?_, h.wts, h.len, h.pay⟩
  ·show (if y.kind = 2 then _ else y.info) = 0
   rw [if_neg (by rw [h.kind]; decide)]
   exact h.info
  ·show y.next.map _ = []
   rw [h.next]
   rfl
 ·refine .inr (.inl ⟨h.kind, h.player, ?_, h.pay, by rw [hl]; exact h.n1, by rw [hl]; exact h.n2, by rw [hl]; exact h.len, h.wts⟩)
  show (if y.kind = 2 then _ else y.info) = 0
  rw [if_neg (by rw [h.kind]; decide)]
  exact h.info
 ·have hi : (shN f ((iO one seen j : Nat) : Int) y).info = y.info + ((iO one seen j : Nat) : Int) := by
   show (if y.kind = 2 then _ else y.info) = _
   rw [if_pos h.kind]
  refine .inr (.inr ⟨h.kind, h.wts, h.pay, by rw [hl]; exact h.n1, by rw [hl]; exact h.n2, h.pl, by rw [hi]; have := h.inf; omega, ?_⟩)
  have hlt := (List.getElem?_eq_some_iff.1 h.at_).1
  rw [hi, show (y.info + ((iO one seen j : Nat) : Int)).toNat = y.info.toNat + iO one seen j by have := h.inf; omega, aHM hlt hj, h.at_, hl]
  rfl
theorem aKg {n c : Nat} {ps : Int} {I : List gR} (hc : 1 ≤ c ∧ c ≤ 3) : jK ps I (aGA n c) := by
 have hl : (aGA n c).next.length = c := by show (kC n c).length = c; unfold kC; rw [List.length_map, List.length_range]
 refine .inr (.inl ⟨rfl, rfl, rfl, rfl, by rw [hl]; exact hc.1, by rw [hl]; exact hc.2, by rw [hl]; exact List.length_replicate .., fun w hw => ?_⟩)
 have : w ∈ List.replicate c (1 : Int) := hw
 rw [List.eq_of_mem_replicate this]
 decide
theorem aBh {k : Nat} (h : pJ k 0 one.nodes) : ∀ {c : Nat}, aBm k 1 (kC one.nodes.length c) (iT one seen c)
 | 0 => aBm.nil
 | c + 1 => by
  have := (aBh h (c := c)).snoc (B := mY one seen c) (by rw [jN]; exact h.shift)
  rw [jN] at this
  have e : kC one.nodes.length (c + 1) = kC one.nodes.length c ++ [((1 + c * one.nodes.length : Nat) : Int)] := by unfold kC; rw [List.range_succ, List.map_append]; rfl
  rw [e]
  exact this
theorem aLQ {f : Int} {s : Nat} {y : cM} (h : y.kind = 2 → 0 ≤ y.info) : vF (shN f (s : Int) y) = (vF y).map (· + s) := by
 unfold vF
 by_cases hk : y.kind = 2
 ·rw [if_pos hk, if_pos (show (shN f (s : Int) y).kind = 2 from hk)]
  have e : (shN f (s : Int) y).info = y.info + (s : Int) := by
   show (if y.kind = 2 then _ else y.info) = _
   rw [if_pos hk]
  rw [e]
  show some (y.info + (s : Int)).toNat = some (y.info.toNat + s)
  have := h hk
  rw [show (y.info + (s : Int)).toNat = y.info.toNat + s by omega]
 ·rw [if_neg hk, if_neg (show ¬ (shN f (s : Int) y).kind = 2 from hk)]
  rfl
theorem aI0 {c : Nat} (h : sH one) : (mY one seen c).map vF = (one.nodes.map vF).map (Option.map (· + iO one seen c)) := by
 unfold mY
 rw [List.map_map, List.map_map]
 refine List.map_congr_left fun y hy => ?_
 refine aLQ fun hk => ?_
 rcases h.ok y hy with h | h | h
 ·have := h.kind; omega
 ·have := h.kind; omega
 ·exact h.inf
theorem wE (h : sH one) : ∀ {c : Nat}, 0 < c → eJ ((iT one seen c).map vF) (iI one seen c).length
 | 0, h0 => absurd h0 (Nat.not_lt_zero _)
 | c + 1, _ => by
  show eJ ((iT one seen c ++ mY one seen c).map vF) _
  rw [List.map_append, aI0 h]
  by_cases hs : seen = true
  ·rw [jI hs]
   have e : iO one seen c = c * one.infos.length := by unfold iO; rw [if_pos hs]
   rw [e, Nat.succ_mul]
   rcases Nat.eq_zero_or_pos c with h0 | h0
   ·subst h0
    rw [Nat.zero_mul, Nat.zero_add]
    have := eJ.app eJ.nil h.ord
    rwa [Nat.zero_add] at this
   ·have := wE h h0
    rw [jI hs] at this
    exact this.app h.ord
  ·have hs : seen = false := by cases seen <;> first | rfl | exact absurd rfl hs
   rw [qP hs (Nat.succ_pos c)]
   have e : iO one seen c = 0 := by unfold iO; rw [if_neg (by rw [hs]; decide)]
   rw [e]
   rcases Nat.eq_zero_or_pos c with h0 | h0
   ·subst h0
    have := eJ.app eJ.nil h.ord
    rwa [Nat.zero_add] at this
   ·have := wE h h0
    rw [qP hs h0] at this
    refine this.same fun i hi => ?_
    obtain ⟨x, hx, he⟩ := List.mem_map.1 hi
    cases x with
    | none => cases he
    | some v =>
     have he : some (v + 0) = some i := he
     cases he
     exact h.ord.lt v hx
theorem eJ.cons {l : List (Option Nat)} {n : Nat} (h : eJ l n) : eJ (Option.none :: l) n := by
 induction h with
 | nil => exact eJ.nil.none
 | none _ ih => exact ih.none
 | old _ hlt ih => exact ih.old hlt
 | new _ ih => exact ih.new
theorem aDe {c : Nat} (h : sH one) (hc : 1 ≤ c ∧ c ≤ 3) : dF (dC one c seen) = 0 ∧ (∀ x ∈ (dC one c seen).nodes, jK (dC one c seen).players (dC one c seen).infos x) := by
 obtain ⟨k, hk, hS⟩ := h.sub
 have hn1 := h.n1
 have hn2 := h.n2
 have hm : one.infos.length ≤ one.nodes.length := by have := h.ord.le; rwa [List.length_map] at this
 have hcn : c * one.nodes.length ≤ 3 * 60 := Nat.mul_le_mul hc.2 h.n2
 have hcm : (iI one seen c).length ≤ 3 * 60 := by
  cases hs : seen with
  | true => rw [jI rfl]; exact Nat.mul_le_mul hc.2 (by omega)
  | false => rw [qP rfl hc.1]; omega
 have hok : ∀ x ∈ (dC one c seen).nodes, jK (dC one c seen).players (dC one c seen).infos x := fun x hx => by
  rcases List.mem_cons.1 hx with rfl | hx
  ·exact aKg hc
  ·obtain ⟨j, y, hj, hy, rfl⟩ := aCr hx
   exact aLI hj (h.ok y hy)
 refine ⟨aFx (k := k + 1) h.prs (by rw [oG]; omega) (by show (iI one seen c).length ≤ 200; omega) hok (pJ.node (aBh hS)) (by omega) ?_, hok⟩
 show eJ (vF (aGA one.nodes.length c) :: (iT one seen c).map vF) _
 exact (wE h hc.1).cons
end
end Go.Ev.Gl
namespace Go.Ev.Gl
variable {fns : T cA}
def xg (j : Nat) : Nat := if j = 0 then 1 else if j = 1 then 0 else j
theorem xD {c j : Nat} (hc : 2 ≤ c) (hj : j < c) : xg j < c := by
 unfold xg
 split
 ·omega
 ·split <;> omega
theorem aNd {n j t : Nat} (ht : t < n) : swF 1 (1 + n) n (1 + j * n + t) = 1 + xg j * n + t := by
 unfold swF xg
 rcases Nat.lt_trichotomy j 1 with h | h | h
 ·obtain rfl : j = 0 := by omega
  rw [if_pos (show 1 ≤ 1 + 0 * n + t ∧ 1 + 0 * n + t < 1 + n by omega), if_pos rfl]
  omega
 ·subst h
  rw [if_neg (show ¬ (1 ≤ 1 + 1 * n + t ∧ 1 + 1 * n + t < 1 + n) by omega), if_pos (show 1 + n ≤ 1 + 1 * n + t ∧ 1 + 1 * n + t < 1 + n + n by omega), if_neg (by decide), if_pos rfl]
  omega
 ·have : 2 * n ≤ j * n := Nat.mul_le_mul_right _ h
  rw [if_neg (show ¬ (1 ≤ 1 + j * n + t ∧ 1 + j * n + t < 1 + n) by omega), if_neg (show ¬ (1 + n ≤ 1 + j * n + t ∧ 1 + j * n + t < 1 + n + n) by omega), if_neg (by omega), if_neg (by omega)]
theorem aCU {l : List Int} {k : Nat} {x : Int} (hk : k < l.length) (he : l.getD k 0 = x) (hd : ∀ k', k' < l.length → l.getD k' 0 = x → k' = k) : oW l 0 x = (k : Int) := by
 have hm : l[k]? = some x := by rw [← he, List.getD_eq_getElem?_getD, List.getElem?_eq_getElem hk]; rfl
 rcases mK (c := x) (l := l) (s := 0) with ⟨_, h2⟩ | ⟨k1, h1, h2, _⟩
 ·exact absurd (List.mem_of_getElem? hm) h2
 ·have := hd k1 (List.getElem?_eq_some_iff.1 h2).1 (by rw [List.getD_eq_getElem?_getD, h2]; rfl)
  rw [h1, this, Nat.zero_add]
theorem xR {l : List Int} {f : Int} {k : Nat} (hk : k < l.length) : (l.map (· + f)).getD k 0 = l.getD k 0 + f := by
 rw [List.getD_eq_getElem?_getD, List.getElem?_map, List.getElem?_eq_getElem hk, List.getD_eq_getElem?_getD, List.getElem?_eq_getElem hk]
 rfl
section
variable {one : bG} {seen : Bool} {c : Nat}
theorem zP {j t : Nat} (hj : j < c) (ht : t < one.nodes.length) : 1 + j * one.nodes.length + t < (dC one c seen).nodes.length := by
 rw [oG]
 have : (j + 1) * one.nodes.length ≤ c * one.nodes.length := Nat.mul_le_mul_right _ hj
 rw [Nat.succ_mul] at this
 omega
theorem aBM (G1 : fP one) {j t k : Nat} (hj : j < c) (ht : t < one.nodes.length) (hk : k < (nodeAt one t).next.length) : ∃ u, u < one.nodes.length ∧ (nodeAt one t).next.getD k 0 = (u : Int) ∧ (nodeAt (dC one c seen) (1 + j * one.nodes.length + t)).next.getD k 0 = ((1 + j * one.nodes.length + u : Nat) : Int) := by
 obtain ⟨a, b⟩ := G1.kids t ht k hk
 refine ⟨((nodeAt one t).next.getD k 0).toNat, by omega, by omega, ?_⟩
 rw [lW hj ht]
 show ((nodeAt one t).next.map (· + _)).getD k 0 = _
 rw [xR hk]
 omega
theorem qI {j t : Nat} (hj : j < c) (ht : t < one.nodes.length) : (nodeAt (dC one c seen) (1 + j * one.nodes.length + t)).next.length = (nodeAt one t).next.length := by
 rw [lW hj ht]
 exact List.length_map ..
theorem aHB {n k : Nat} (hk : k < c) : (kC n c).getD k 0 = ((1 + k * n : Nat) : Int) := by
 unfold kC
 exact nK hk
theorem uR {n : Nat} : (kC n c).length = c := by unfold kC; rw [List.length_map, List.length_range]
theorem xC (h1 : 1 ≤ one.nodes.length) (hc : 2 ≤ c) {j t : Nat} (hj : j < c) (ht : t < one.nodes.length) : eT (yU (dC one c seen).nodes.length 1 (1 + one.nodes.length) one.nodes.length) (1 + j * one.nodes.length + t) = 1 + xg j * one.nodes.length + t := by
 rw [aCc (zP hj ht)]
 exact aNd ht
theorem aAX : eT (yU (dC one c seen).nodes.length 1 (1 + one.nodes.length) one.nodes.length) 0 = 0 := by
 rw [aCc (by rw [oG]; omega)]
 unfold swF
 rw [if_neg (by omega), if_neg (by omega)]
theorem aFK {i : Nat} (hi : i < (dC one c seen).nodes.length) : (yU (dC one c seen).nodes.length 1 (1 + one.nodes.length) one.nodes.length).getD i 0 = ((eT (yU (dC one c seen).nodes.length 1 (1 + one.nodes.length) one.nodes.length) i : Nat) : Int) := by
 rw [aCc hi]
 unfold yU
 rw [nK hi]
theorem aDo (G : fP (dC one c seen)) (G1 : fP one) (h1 : 1 ≤ one.nodes.length) (hc : 2 ≤ c) {j t k : Nat} (hj : j < c) (ht : t < one.nodes.length) (hk : k < (nodeAt one t).next.length) : gS (dC one c seen) (yU (dC one c seen).nodes.length 1 (1 + one.nodes.length) one.nodes.length) (1 + j * one.nodes.length + t) k = (k : Int) := by
 have hs := xD hc hj
 obtain ⟨u, hu, e1, e2⟩ := aBM (seen := seen) G1 hj ht hk
 obtain ⟨u', hu', e1', e3⟩ := aBM (seen := seen) G1 hs ht hk
 obtain rfl : u' = u := by omega
 unfold gS
 rw [e2, Int.toNat_natCast, aFK (zP hj hu), xC h1 hc hj hu, xC h1 hc hj ht]
 refine aCU (by rw [qI hs ht]; exact hk) e3 fun k' hk' he => ?_
 exact (G.only (zP hs ht) hk' (zP hs ht) (by rw [qI hs ht]; exact hk) (by rw [he, e3])).2
theorem aEE (G : fP (dC one c seen)) (h1 : 1 ≤ one.nodes.length) (hc : 2 ≤ c) {k : Nat} (hk : k < c) : gS (dC one c seen) (yU (dC one c seen).nodes.length 1 (1 + one.nodes.length) one.nodes.length) 0 k = ((xg k : Nat) : Int) := by
 have hs := xD hc hk
 have hN : 0 < (dC one c seen).nodes.length := by rw [oG]; omega
 have e : ∀ q, q < c → (nodeAt (dC one c seen) 0).next.getD q 0 = ((1 + q * one.nodes.length : Nat) : Int) := fun q hq => aHB hq
 have hl : (nodeAt (dC one c seen) 0).next.length = c := uR
 have h2 := xC (seen := seen) h1 hc hk (t := 0) h1
 rw [Nat.add_zero, Nat.add_zero] at h2
 unfold gS
 rw [aAX, e k hk, Int.toNat_natCast, aFK (by have := zP (seen := seen) hk (t := 0) h1; rwa [Nat.add_zero] at this), h2]
 refine aCU (by rw [hl]; exact hs) (e _ hs) fun k' hk' he => ?_
 exact (G.only hN hk' hN (by rw [hl]; exact hs) (by rw [he, e _ hs])).2
theorem aIi (h : sH one) (hc : 2 ≤ c ∧ c ≤ 3) : lL (dC one c seen) (yU (dC one c seen).nodes.length 1 (1 + one.nodes.length) one.nodes.length) := by
 have G := jX (aDe (seen := seen) h ⟨by omega, hc.2⟩).1
 have G1 := jX h.form
 have h1 := h.n1
 have hlen := oG (one := one) (seen := seen) (c := c)
 have split := fun i (h0 : 0 < i) (hi : i < (dC one c seen).nodes.length) => aFX (one := one) (c := c) h0 (by rw [← hlen]; exact hi)
 have hroot : (nodeAt (dC one c seen) 0).next.length = c := uR
 have kind_at := fun j t (hj : j < c) (ht : t < one.nodes.length) => show (nodeAt (dC one c seen) (1 + j * one.nodes.length + t)).kind = (nodeAt one t).kind by rw [lW hj ht]; rfl
 have info_at := fun j t (hj : j < c) (ht : t < one.nodes.length) (hk : (nodeAt one t).kind = 2) => show (nodeAt (dC one c seen) (1 + j * one.nodes.length + t)).info = (nodeAt one t).info + ((iO one seen j : Nat) : Int) by
  rw [lW hj ht]
  show (if (nodeAt one t).kind = 2 then _ else _) = _
  rw [if_pos hk]
 have inf1 := fun t (ht : t < one.nodes.length) (hk : (nodeAt one t).kind = 2) => G1.inf t ht hk
 have off_inj : ∀ (j j' : Nat) (x y : Int), 0 ≤ x → x < (one.infos.length : Int) → 0 ≤ y → y < (one.infos.length : Int) → x + ((iO one seen j : Nat) : Int) = y + ((iO one seen j' : Nat) : Int) → x = y ∧ (seen = true → j = j') := by
  intro j j' x y hx1 hx2 hy1 hy2 he
  unfold iO at he
  by_cases hs : seen = true
  ·rw [if_pos hs, if_pos hs] at he
   rcases Nat.lt_trichotomy j j' with hlt | heq | hlt
   ·have := Nat.mul_le_mul_right one.infos.length (show j + 1 ≤ j' from hlt)
    rw [Nat.succ_mul] at this
    omega
   ·subst heq; exact ⟨by omega, fun _ => rfl⟩
   ·have := Nat.mul_le_mul_right one.infos.length (show j' + 1 ≤ j from hlt)
    rw [Nat.succ_mul] at this
    omega
  ·rw [if_neg hs, if_neg hs] at he
   exact ⟨by omega, fun h => absurd h hs⟩
 have off_xg : ∀ j j' : Nat, (seen = true → j = j') → iO one seen (xg j) = iO one seen (xg j') := fun j j' hjj => by
  unfold iO
  by_cases hs : seen = true
  ·rw [hjj hs]
  ·rw [if_neg hs, if_neg hs]
 have xg_xg : ∀ j, xg (xg j) = j := fun j => by
  unfold xg
  by_cases e0 : j = 0
  ·rw [if_pos e0, e0]; rfl
  ·rw [if_neg e0]
   by_cases e1 : j = 1
   ·rw [if_pos e1, e1]; rfl
   ·rw [if_neg e1, if_neg e0, if_neg e1]
 refine ⟨?_, fun i hi => ?_, fun i k hi hk => ?_, fun i k hi hk hk1 => ?_, fun i i' hi hi' hk hk' he => ?_, fun i i' hi hi' hk hk' he => ?_⟩
 ·rw [aFK (by rw [hlen]; omega), aAX]; rfl
 ·rcases Nat.eq_zero_or_pos i with h0 | h0
  ·subst h0; rw [aAX]; exact ⟨rfl, rfl, rfl, rfl⟩
  ·obtain ⟨j, t, hj, ht, rfl⟩ := split i h0 hi
   have hs := xD hc.1 hj
   rw [xC h1 hc.1 hj ht, lW hj ht, lW hs ht]
   exact ⟨rfl, by show (List.map _ _).length = (List.map _ _).length; rw [List.length_map, List.length_map], rfl, rfl⟩
 ·rcases Nat.eq_zero_or_pos i with h0 | h0
  ·subst h0; rw [aEE G h1 hc.1 (by rwa [hroot] at hk)]; omega
  ·obtain ⟨j, t, hj, ht, rfl⟩ := split i h0 hi
   rw [aDo G G1 h1 hc.1 hj ht (by rwa [qI hj ht] at hk)]; omega
 ·rcases Nat.eq_zero_or_pos i with h0 | h0
  ·subst h0
   rw [hroot] at hk
   rw [aEE G h1 hc.1 hk, Int.toNat_natCast, aAX]
   have hs := xD hc.1 hk
   have e : ∀ q, q < c → (nodeAt (dC one c seen) 0).weights.getD q 0 = 1 := fun q hq => by
    show (List.replicate c (1 : Int)).getD q 0 = 1
    rw [List.getD_eq_getElem?_getD, List.getElem?_replicate, if_pos hq]
    rfl
   rw [e k hk, e _ hs]
  ·obtain ⟨j, t, hj, ht, rfl⟩ := split i h0 hi
   have hs := xD hc.1 hj
   rw [aDo G G1 h1 hc.1 hj ht (by rwa [qI hj ht] at hk), Int.toNat_natCast, xC h1 hc.1 hj ht, lW hj ht, lW hs ht]
   rfl
 ·rcases Nat.eq_zero_or_pos i with h0 | h0
  ·subst h0; cases hk
  rcases Nat.eq_zero_or_pos i' with h0' | h0'
  ·subst h0'; cases hk'
  obtain ⟨j, t, hj, ht, rfl⟩ := split i h0 hi
  obtain ⟨j', t', hj', ht', rfl⟩ := split i' h0' hi'
  have hs := xD hc.1 hj
  have hs' := xD hc.1 hj'
  rw [kind_at j t hj ht] at hk
  rw [kind_at j' t' hj' ht'] at hk'
  rw [info_at j t hj ht hk, info_at j' t' hj' ht' hk'] at he
  obtain ⟨a1, a2, a3⟩ := inf1 t ht hk
  obtain ⟨b1, b2, b3⟩ := inf1 t' ht' hk'
  obtain ⟨x1, x2⟩ := off_inj j j' _ _ a1 a2 b1 b2 he
  rw [xC h1 hc.1 hj ht, xC h1 hc.1 hj' ht', info_at _ t hs ht hk, info_at _ t' hs' ht' hk', x1, off_xg j j' x2]
  refine ⟨rfl, fun k hk2 => ?_⟩
  rw [qI hj ht] at hk2
  rw [← x1, a3] at b3
  rw [aDo G G1 h1 hc.1 hj ht hk2, aDo G G1 h1 hc.1 hj' ht' (by omega)]
 ·rcases Nat.eq_zero_or_pos i with h0 | h0
  ·subst h0; cases hk
  rcases Nat.eq_zero_or_pos i' with h0' | h0'
  ·subst h0'; cases hk'
  obtain ⟨j, t, hj, ht, rfl⟩ := split i h0 hi
  obtain ⟨j', t', hj', ht', rfl⟩ := split i' h0' hi'
  have hs := xD hc.1 hj
  have hs' := xD hc.1 hj'
  rw [kind_at j t hj ht] at hk
  rw [kind_at j' t' hj' ht'] at hk'
  rw [xC h1 hc.1 hj ht, xC h1 hc.1 hj' ht', info_at _ t hs ht hk, info_at _ t' hs' ht' hk'] at he
  obtain ⟨a1, a2, _⟩ := inf1 t ht hk
  obtain ⟨b1, b2, _⟩ := inf1 t' ht' hk'
  obtain ⟨x1, x2⟩ := off_inj _ _ _ _ a1 a2 b1 b2 he
  rw [info_at j t hj ht hk, info_at j' t' hj' ht' hk', x1]
  have := off_xg (xg j) (xg j') x2
  rw [xg_xg, xg_xg] at this
  rw [this]
end
end Go.Ev.Gl
namespace Go.Ev.Gl
variable {fns : T cA}
theorem aCM {N : Nat} {nx : Nat → List Int} {f a : Nat} {p d : Int} {L : List cK} (h : eR N nx f a p d = some L) : ∃ t, L[0]? = some t ∧ t.2.2 + 1 = ((a + L.length : Nat) : Int) := by
 cases f with
 | zero => cases h
 | succ f =>
  simp only [eR] at h
  split at h
  ·obtain ⟨M, _, rfl⟩ := Option.map_eq_some_iff.1 h
   refine ⟨_, rfl, ?_⟩
   rw [List.length_cons]
   show ((a + M.length : Nat) : Int) + 1 = _
   omega
  ·cases h
section
variable {one : bG} {seen : Bool} {c : Nat} {T : List cK}
theorem aCN {n : Nat} (hc : 2 ≤ c) : ∃ l, kC n c = 1 :: ((1 + n : Nat) : Int) :: l := by
 obtain ⟨d, rfl⟩ : ∃ d, c = d + 2 := ⟨c - 2, by omega⟩
 refine ⟨(List.range d).map fun j : Nat => ((1 + (j + 1 + 1) * n : Nat) : Int), ?_⟩
 unfold kC
 rw [List.range_succ_eq_map, List.range_succ_eq_map, List.map_cons, List.map_cons, List.map_cons, List.map_map, List.map_map]
 have e0 : ((1 + 0 * n : Nat) : Int) = 1 := by rw [Nat.zero_mul]; rfl
 have e1 : ((1 + (Nat.succ 0) * n : Nat) : Int) = ((1 + n : Nat) : Int) := by rw [show Nat.succ 0 * n = n from Nat.one_mul n]
 rw [e0, e1]
 rfl
theorem aGj (h : sH one) (hc : 2 ≤ c) (hT : iC (dC one c seen) = some T) : fR T 1 = one.nodes.length ∧ fR T (1 + one.nodes.length) = one.nodes.length := by
 obtain ⟨k, _, hS⟩ := h.sub
 have h1 := h.n1
 have hlen := oG (one := one) (seen := seen) (c := c)
 have hsub : ∀ j, j < c → ∃ L, eR (dC one c seen).nodes.length (dP (dC one c seen)) (dC one c seen).nodes.length (1 + j * one.nodes.length) ((0 : Nat) : Int) (0 + 1) = some L ∧ L.length = one.nodes.length := fun j hj => by
  have hs := hS.shift (a := 1 + j * one.nodes.length) (s := ((iO one seen j : Nat) : Int))
  obtain ⟨L, e1, e2, _⟩ := hs.2 (dC one c seen).nodes.length (dP (dC one c seen)) (by
   rw [List.length_map]
   obtain ⟨t, ht⟩ : ∃ t, one.nodes.length = t + 1 := ⟨one.nodes.length - 1, by omega⟩
   have := zP (one := one) (seen := seen) hj (t := t) (by omega)
   omega) (fun i x hi => by
   have hlt := (List.getElem?_eq_some_iff.1 hi).1
   rw [List.length_map] at hlt
   rw [iE, lW hj hlt]
   rw [List.getElem?_map, dU hlt] at hi
   cases hi
   rfl) (dC one c seen).nodes.length ((0 : Nat) : Int) (0 + 1) (by rw [List.length_map, hlen]; have : 1 * one.nodes.length ≤ c * one.nodes.length := Nat.mul_le_mul_right _ (by omega); omega)
  exact ⟨L, e1, by rw [e2, List.length_map]⟩
 obtain ⟨l, hl⟩ := aCN (n := one.nodes.length) hc
 have hw : eR (dC one c seen).nodes.length (dP (dC one c seen)) ((dC one c seen).nodes.length + 1) 0 (-1) 0 = some T := hT
 simp only [eR] at hw
 rw [if_pos (by omega)] at hw
 obtain ⟨L, hk, rfl⟩ := Option.map_eq_some_iff.1 hw
 have hn0 : dP (dC one c seen) 0 = kC one.nodes.length c := by rw [iE]; rfl
 rw [hn0, hl] at hk
 obtain ⟨L0, a1, a2⟩ := hsub 0 (by omega)
 obtain ⟨L1, b1, b2⟩ := hsub 1 (by omega)
 rw [Nat.zero_mul, Nat.add_zero] at a1
 rw [Nat.one_mul] at b1
 simp only [fF, Nat.zero_add] at hk
 rw [if_pos (by rfl)] at hk
 obtain ⟨L0', c1, c2⟩ := Option.bind_eq_some_iff.1 hk
 rw [show (0 : Int) + 1 = 0 + 1 from rfl] at c1
 have c1' := c1.symm.trans a1
 cases c1'
 obtain ⟨M, c3, rfl⟩ := Option.map_eq_some_iff.1 c2
 rw [a2] at c3
 rw [if_pos rfl] at c3
 obtain ⟨L1', d1, d2⟩ := Option.bind_eq_some_iff.1 c3
 have d1' := d1.symm.trans b1
 cases d1'
 obtain ⟨M2, _, rfl⟩ := Option.map_eq_some_iff.1 d2
 obtain ⟨t0, e0, f0⟩ := aCM a1
 obtain ⟨t1, e1, f1⟩ := aCM b1
 rw [a2] at f0
 rw [b2] at f1
 refine ⟨?_, ?_⟩
 ·unfold fR
  have : ((-1, 0, ((0 + (L0 ++ (L1 ++ M2)).length : Nat) : Int)) :: (L0 ++ (L1 ++ M2)) : List cK)[1]? = some t0 := by
   rw [List.getElem?_cons_succ, List.getElem?_append_left (by omega)]
   exact e0
  rw [this]
  show (t0.2.2 + 1 - ((1 : Nat) : Int)).toNat = _
  omega
 ·unfold fR
  have : ((-1, 0, ((0 + (L0 ++ (L1 ++ M2)).length : Nat) : Int)) :: (L0 ++ (L1 ++ M2)) : List cK)[1 + one.nodes.length]? = some t1 := by
   rw [Nat.add_comm 1, List.getElem?_cons_succ, List.getElem?_append_right (by omega), a2, Nat.sub_self, List.getElem?_append_left (by omega)]
   exact e1
  rw [this]
  show (t1.2.2 + 1 - ((1 + one.nodes.length : Nat) : Int)).toNat = _
  omega
theorem aHs (h : sH one) (hc : 2 ≤ c ∧ c ≤ 3) (hT : iC (dC one c seen) = some T) : aF8 (dC one c seen) T 0 0 1 := by
 obtain ⟨z0, z1⟩ := aGj h hc.1 hT
 have h1 := h.n1
 obtain ⟨l, hl⟩ := aCN (n := one.nodes.length) hc.1
 have e0 : ((nodeAt (dC one c seen) 0).next.getD 0 0).toNat = 1 := by
  show ((kC one.nodes.length c).getD 0 0).toNat = 1
  rw [hl]; rfl
 have e1 : ((nodeAt (dC one c seen) 0).next.getD 1 0).toNat = 1 + one.nodes.length := by
  show ((kC one.nodes.length c).getD 1 0).toNat = _
  rw [hl]
  show (((1 + one.nodes.length : Nat) : Int)).toNat = _
  omega
 unfold aF8
 rw [e0, e1, z0]
 refine ⟨?_, ⟨by rw [z0, z1], fun t ht => ?_⟩, aIi h hc⟩
 ·have e : ∀ q, q < c → (nodeAt (dC one c seen) 0).weights.getD q 0 = 1 := fun q hq => by
   show (List.replicate c (1 : Int)).getD q 0 = 1
   rw [List.getD_eq_getElem?_getD, List.getElem?_replicate, if_pos hq]
   rfl
  rw [e 0 (by omega), e 1 (by omega)]
 ·rw [z0] at ht
  have x0 := lW (one := one) (seen := seen) (c := c) (j := 0) (t := t) (by omega) ht
  have x1 := lW (one := one) (seen := seen) (c := c) (j := 1) (t := t) (by omega) ht
  rw [Nat.zero_mul, Nat.add_zero] at x0
  rw [Nat.one_mul] at x1
  rw [x0, x1]
  refine ⟨rfl, rfl, rfl, rfl, by show (List.map _ _).length = (List.map _ _).length; rw [List.length_map, List.length_map], fun k hk => ?_⟩
  have hk' : k < (nodeAt one t).next.length := by
   have : k < (List.map (· + ((1 : Nat) : Int)) (nodeAt one t).next).length := hk
   rwa [List.length_map] at this
  show (List.map (· + ((1 : Nat) : Int)) (nodeAt one t).next).getD k 0 - ((1 : Nat) : Int) = (List.map (· + ((1 + one.nodes.length : Nat) : Int)) (nodeAt one t).next).getD k 0 - ((1 + one.nodes.length : Nat) : Int)
  rw [xR hk', xR hk']
  omega
theorem aBO {g : bG} {i k : Nat} : ∀ {j j' : Nat}, j ≤ j' → (iW g T i k j).length ≤ (iW g T i k j').length
 | j, 0, h => by
  obtain rfl : j = 0 := by omega
  exact Nat.le_refl _
 | j, j' + 1, h => by
  by_cases e : j = j' + 1
  ·rw [e]; exact Nat.le_refl _
  ·refine Nat.le_trans (aBO (j := j) (j' := j') (by omega)) ?_
   show _ ≤ (iW g T i k j' ++ _).length
   rw [List.length_append]
   omega
theorem aBo {g : bG} {i : Nat} : ∀ {k k' : Nat}, k ≤ k' → (lT g T i k).length ≤ (lT g T i k').length
 | k, 0, h => by
  obtain rfl : k = 0 := by omega
  exact Nat.le_refl _
 | k, k' + 1, h => by
  by_cases e : k = k' + 1
  ·rw [e]; exact Nat.le_refl _
  ·refine Nat.le_trans (aBo (k := k) (k' := k') (by omega)) ?_
   show _ ≤ (lT g T i k' ++ _).length
   rw [List.length_append]
   omega
theorem aB3 {g : bG} : ∀ {i i' : Nat}, i ≤ i' → (iB g T i).length ≤ (iB g T i').length
 | i, 0, h => by
  obtain rfl : i = 0 := by omega
  exact Nat.le_refl _
 | i, i' + 1, h => by
  by_cases e : i = i' + 1
  ·rw [e]; exact Nat.le_refl _
  ·refine Nat.le_trans (aB3 (i := i) (i' := i') (by omega)) ?_
   show _ ≤ (iB g T i' ++ _).length
   rw [List.length_append]
   omega
theorem aI8 (h : sH one) (hc : 2 ≤ c ∧ c ≤ 3) (hT : iC (dC one c seen) = some T) : 1 ≤ (iB (dC one c seen) T (dC one c seen).nodes.length).length := by
 have hok := aHs h hc hT
 have hroot : (nodeAt (dC one c seen) 0).next.length = c := uR
 refine Nat.le_trans ?_ (aB3 (i := 1) (by rw [oG]; omega))
 show 1 ≤ ([] ++ if (nodeAt (dC one c seen) 0).kind = 1 then lT (dC one c seen) T 0 (nodeAt (dC one c seen) 0).next.length else []).length
 rw [if_pos (show (nodeAt (dC one c seen) 0).kind = 1 from rfl), List.nil_append]
 refine Nat.le_trans ?_ (aBo (k := 1) (by rw [hroot]; omega))
 show 1 ≤ ([] ++ iW (dC one c seen) T 0 0 (nodeAt (dC one c seen) 0).next.length).length
 rw [List.nil_append]
 refine Nat.le_trans ?_ (aBO (j := 2) (by rw [hroot]; omega))
 rw [aEQ (by decide) hok, List.length_append, List.length_singleton]
 omega
end
end Go.Ev.Gl
