/- Contracts (19): rational numbers, the statements' tools, the law. -/
import Derived.Test.YtoojnpjgnnpllaaGl18
open Nat (reduceEqDiff reduceAdd)
set_option maxHeartbeats 4000000
set_option linter.unusedSimpArgs false
set_option linter.unusedVariables false
namespace Go.Ev.Gl
variable {fns : T AFn}

/-! ## Tables that stand for choices, plain -/
theorem wM_one {g : PGame} {i : Nat} : wM 1 g i = wN g i := by unfold wM wN; split; rfl; split <;> rfl
theorem prods_one {g : PGame} {pr : Nat → Nat} (P : ProdM 1 g pr) : Prods g pr := ⟨P.zero, fun i hi k hk => by rw [P.kid i hi k hk, wM_one]⟩
theorem szF_of {g : PGame} {pr : Nat → Nat} : ∀ {n z : Nat}, spF 1 g pr n = some z → szF g pr n = some z
  | 0, z, h => h
  | n + 1, z, h => by
    rw [spF_succ] at h
    cases h1 : spF 1 g pr n with
    | none => rw [h1] at h; cases h
    | some y =>
      rw [h1] at h
      have h : (if (nodeAt g n).kind = 3 then lcmO y (pr n) else if 1000000000000000 < pr n * wM 1 g n then none else some y) = some z := h
      rw [szF_succ, szF_of h1]
      show (if (nodeAt g n).kind = 3 then lcmO y (pr n) else if (nodeAt g n).kind = 1 ∧ 1000000000000000 < pr n * wN g n then none else some y) = some z
      by_cases h3 : (nodeAt g n).kind = 3
      · rw [if_pos h3] at h ⊢; exact h
      · rw [if_neg h3] at h ⊢
        rw [wM_one] at h
        split at h
        · cases h
        · rename_i hb; rw [if_neg (fun x => hb x.2)]; exact h
theorem spF_dv {M : Nat} {g : PGame} {pr : Nat → Nat} {Q : Nat} : ∀ {n z : Nat}, spF M g pr n = some z → (∀ j, j < n → (nodeAt g j).kind = 3 → pr j ∣ Q) → z ∣ Q
  | 0, z, h, _ => by
    have : some 1 = some z := h
    cases this
    exact Nat.one_dvd _
  | n + 1, z, h, hQ => by
    rw [spF_succ] at h
    cases h1 : spF M g pr n with
    | none => rw [h1] at h; cases h
    | some y =>
      have ih := spF_dv h1 fun j hj hk => hQ j (by omega) hk
      rw [h1] at h
      have h : (if (nodeAt g n).kind = 3 then lcmO y (pr n) else if 1000000000000000 < pr n * wM M g n then none else some y) = some z := h
      split at h
      · rename_i h3
        unfold lcmO at h
        split at h
        · cases h
        · cases h; exact lcm_dvd' ih (hQ n (by omega) h3)
      · split at h
        · cases h
        · cases h; exact ih
/-- choices that there are -/
structure ChsOk (g : PGame) (c : List Int) : Prop where
  len : c.length = g.infos.length
  ok : ∀ i, i < g.infos.length → 0 ≤ c.getD i 0 ∧ c.getD i 0 < (infoAt g (i : Int)).actions
/-- the rows of all or nothing -/
def pureR (g : PGame) (c : List Int) (M i : Nat) : List Int := (List.replicate (infoAt g (i : Int)).actions.toNat (0 : Int)).set (c.getD i 0).toNat (M : Int)
def pureT (g : PGame) (c : List Int) (M : Nat) : List (List Int) := (List.range g.infos.length).map (pureR g c M)
theorem pureT_get {g : PGame} {c : List Int} {M i : Nat} (h : i < g.infos.length) : (pureT g c M).getD i [] = pureR g c M i := by
  unfold pureT
  rw [List.getD_eq_getElem?_getD, List.getElem?_map, List.getElem?_range h]
  rfl
theorem pureR_get {g : PGame} {c : List Int} {M i k : Nat} (C : ChsOk g c) (hi : i < g.infos.length) : (pureR g c M i).getD k 0 = if (k : Int) = c.getD i 0 then (M : Int) else 0 := by
  obtain ⟨h1, h2⟩ := C.ok i hi
  unfold pureR
  rw [getD_set (by rw [List.length_replicate]; omega)]
  by_cases e : k = (c.getD i 0).toNat
  · rw [if_pos e, if_pos (by omega)]
  · rw [if_neg e, if_neg (by omega), List.getD_eq_getElem?_getD, List.getElem?_replicate]
    split <;> rfl
theorem pureR_ok {g : PGame} {c : List Int} {M i : Nat} (C : ChsOk g c) (hi : i < g.infos.length) : RowOk M (infoAt g (i : Int)).actions.toNat (pureR g c M i) := by
  obtain ⟨h1, h2⟩ := C.ok i hi
  refine ⟨by unfold pureR; rw [List.length_set, List.length_replicate], fun x hx => ?_, ?_⟩
  · unfold pureR at hx
    rcases List.mem_or_eq_of_mem_set hx with h | rfl
    · rw [List.eq_of_mem_replicate h]; exact Int.le_refl _
    · omega
  · have := sum_set (l := List.replicate (infoAt g (i : Int)).actions.toNat (0 : Int)) (k := (c.getD i 0).toNat) (w := (M : Int)) (by rw [List.length_replicate]; omega)
    rw [getD_rep0 (by omega), Int.zero_add] at this
    unfold pureR
    rw [this]
    simp
/-- the ways' weights with shares of 2 and of 1 -/
theorem pure_rel {g : PGame} {c : List Int} {p1 p2 W1 W2 : Nat → Nat} {L : List (List Int)} (G : GoodK g) (C : ChsOk g c) (hL : ∀ i, i < g.infos.length → L.getD i [] = pureR g c 2 i) (P1 : ProdM 1 g p1) (P2 : ProdM 2 g p2) (M1 : MassW g (pureT g c 1) W1) (M2 : MassW g L W2) : ∀ {j : Nat}, j < g.nodes.length → ∃ e, 0 < e ∧ p2 j = p1 j * e ∧ W2 j = W1 j * e := by
  intro j
  induction j using Nat.strongRecOn with
  | ind j ih =>
    intro hj
    rcases Nat.eq_zero_or_pos j with h0 | h0
    · subst h0
      exact ⟨1, Nat.one_pos, by rw [P1.zero, P2.zero], by rw [M1.zero, M2.zero]⟩
    · obtain ⟨q, k, hq, hk, he⟩ := parent_of G.good h0 hj
      have hqN : q < g.nodes.length := by omega
      obtain ⟨e, h1, h2, h3⟩ := ih q hq hqN
      have a1 := P1.kid q hqN k hk
      have a2 := P2.kid q hqN k hk
      have b1 := M1.kid q hqN k hk
      have b2 := M2.kid q hqN k hk
      rw [he, Int.toNat_natCast] at a1 a2 b1 b2
      have h3' : (nodeAt g q).kind ≠ 3 := fun h => by rw [G.fin q hqN h] at hk; exact absurd hk (Nat.not_lt_zero _)
      rcases G.knd q hqN with hk1 | hk2 | hk3
      · have e1 : wM 1 g q = wM 2 g q := by unfold wM; rw [if_pos hk1, if_pos hk1]
        have e2 : wL g (pureT g c 1) q = wL g L q := by unfold wL; rw [if_neg (by omega), if_neg (by omega)]
        refine ⟨e, h1, ?_, ?_⟩
        · rw [a2, a1, e1, h2, Nat.mul_right_comm]
        · rw [b2, b1, e2, h3, Nat.mul_right_comm]
      · obtain ⟨i1, i2, _⟩ := G.good.inf q hqN hk2
        have hin : (nodeAt g q).info.toNat < g.infos.length := by omega
        have e1 : wM 1 g q = 1 ∧ wM 2 g q = 2 := by unfold wM; rw [if_neg (by omega), if_pos hk2, if_neg (by omega), if_pos hk2]; exact ⟨rfl, rfl⟩
        have e2 : wL g (pureT g c 1) q = pureR g c 1 (nodeAt g q).info.toNat := by unfold wL; rw [if_pos hk2, pureT_get hin]
        have e3 : wL g L q = pureR g c 2 (nodeAt g q).info.toNat := by unfold wL; rw [if_pos hk2, hL _ hin]
        rw [e1.1, Nat.mul_one] at a1
        rw [e1.2, h2, ← a1] at a2
        rw [e2, pureR_get C hin] at b1
        rw [e3, pureR_get C hin] at b2
        refine ⟨e * 2, by omega, by rw [a2, Nat.mul_assoc], ?_⟩
        rw [b1, b2, h3]
        split
        · show W1 q * e * 2 = W1 q * 1 * (e * 2)
          rw [Nat.mul_one, Nat.mul_assoc]
        · show W1 q * e * 0 = W1 q * 0 * (e * 2)
          rw [Nat.mul_zero, Nat.mul_zero, Nat.zero_mul]
      · exact absurd hk3 h3'
/-- the two counts of one node -/
theorem pure_eq {p1 p2 w1 w2 e size all : Nat} (h0 : 0 < e) (hp : 0 < p1) (hs : 0 < size) (h1 : p2 = p1 * e) (h2 : w2 = w1 * e) (d1 : p1 ∣ size) (d2 : size ∣ all) (d3 : p2 ∣ all) : size / p1 * w1 * (all / size) = all / p2 * w2 := by
  obtain ⟨a, rfl⟩ := d1
  obtain ⟨b, rfl⟩ := d2
  obtain ⟨d, hd⟩ := d3
  have hp2 : 0 < p2 := by rw [h1]; exact Nat.mul_pos hp h0
  rw [Nat.mul_div_cancel_left _ hp, Nat.mul_div_cancel_left _ hs]
  rw [hd, Nat.mul_div_cancel_left _ hp2, h2]
  rw [h1, Nat.mul_assoc, Nat.mul_assoc] at hd
  have hab : a * b = e * d := Nat.eq_of_mul_eq_mul_left hp hd
  calc a * w1 * b = a * b * w1 := Nat.mul_right_comm a w1 b
    _ = e * d * w1 := by rw [hab]
    _ = d * (w1 * e) := by rw [Nat.mul_comm e d, Nat.mul_assoc, Nat.mul_comm e w1]
/-! ### counts of choices -/
structure CtH (g : PGame) (c : List Int) (pr W : Nat → Nat) (z : Nat) : Prop where
  G : GoodK g
  C : ChsOk g c
  P : ProdM 1 g pr
  M : MassW g (pureT g c 1) W
  dv : ∀ j, j < g.nodes.length → pr j ∣ z ∧ ((nodeAt g j).kind ≠ 3 → pr j * wM 1 g j ∣ z)
  z0 : 0 < z
  z1 : z ≤ 1000000000000000
section
variable {g : PGame} {c : List Int} {pr W : Nat → Nat} {z : Nat}
theorem CtH.pos (h : CtH g c pr W z) {j : Nat} (hj : j < g.nodes.length) : 0 < pr j := h.P.pos (by decide) h.G hj
theorem CtH.le (h : CtH g c pr W z) : ∀ {j : Nat}, j < g.nodes.length → W j ≤ pr j := by
  intro j
  induction j using Nat.strongRecOn with
  | ind j ih =>
    intro hj
    rcases Nat.eq_zero_or_pos j with h0 | h0
    · subst h0; rw [h.P.zero, h.M.zero]; exact Nat.le_refl _
    · obtain ⟨q, k, hq, hk, he⟩ := parent_of h.G.good h0 hj
      have hqN : q < g.nodes.length := by omega
      have e1 := h.P.kid q hqN k hk
      have e2 := h.M.kid q hqN k hk
      rw [he, Int.toNat_natCast] at e1 e2
      rw [e1, e2]
      refine Nat.mul_le_mul (ih q hq hqN) ?_
      have h3' : (nodeAt g q).kind ≠ 3 := fun h' => by rw [h.G.fin q hqN h'] at hk; exact absurd hk (Nat.not_lt_zero _)
      rcases h.G.knd q hqN with hk1 | hk2 | hk3
      · have hw := h.G.chn q hqN hk1
        have hlen := h.G.good.wts q hqN hk1
        have e3 : wL g (pureT g c 1) q = (nodeAt g q).weights := by unfold wL; rw [if_neg (by omega)]
        have e4 : wM 1 g q = (nodeAt g q).weights.sum.toNat := by unfold wM; rw [if_pos hk1]
        rw [e3, e4]
        have := le_sumNN (l := (nodeAt g q).weights) (fun x hx => by have := hw.1 x hx; omega) _ (getD_mem (k := k) (by omega))
        omega
      · obtain ⟨i1, i2, _⟩ := h.G.good.inf q hqN hk2
        have hin : (nodeAt g q).info.toNat < g.infos.length := by omega
        have e3 : wL g (pureT g c 1) q = pureR g c 1 (nodeAt g q).info.toNat := by unfold wL; rw [if_pos hk2, pureT_get hin]
        have e4 : wM 1 g q = 1 := by unfold wM; rw [if_neg (by omega), if_pos hk2]
        rw [e3, e4, pureR_get h.C hin]
        split <;> decide
      · exact absurd hk3 h3'
theorem CtH.wle (h : CtH g c pr W z) {j : Nat} (hj : j < g.nodes.length) : wantN z pr W j ≤ 1000000000000000 := by
  unfold wantN
  have h1 := Nat.mul_le_mul_left (z / pr j) (h.le hj)
  have h2 := Nat.div_mul_le_self z (pr j)
  have h3 := h.z1
  omega
/-- what a child of a chance node gets -/
theorem CtH.chn (h : CtH g c pr W z) {i k : Nat} (hi : i < g.nodes.length) (hk1 : (nodeAt g i).kind = 1) (hk : k < (nodeAt g i).next.length) : wantN z pr W i / (nodeAt g i).weights.sum.toNat * ((nodeAt g i).weights.getD k 0).toNat = wantN z pr W ((nodeAt g i).next.getD k 0).toNat := by
  obtain ⟨m, hm⟩ := (h.dv i hi).2 (by omega)
  have hp := h.pos hi
  have f4 : 0 < wM 1 g i := (wM_bd (by decide) h.G hi).1
  have e4 : wM 1 g i = (nodeAt g i).weights.sum.toNat := by unfold wM; rw [if_pos hk1]
  have e5 : wL g (pureT g c 1) i = (nodeAt g i).weights := by unfold wL; rw [if_neg (by omega)]
  have e1 : z / pr i = m * wM 1 g i := by rw [hm, Nat.mul_assoc, Nat.mul_div_cancel_left _ hp, Nat.mul_comm]
  have e2 : z / (pr i * wM 1 g i) = m := by rw [hm, Nat.mul_div_cancel_left _ (Nat.mul_pos hp f4)]
  have e3 : wantN z pr W i = m * W i * wM 1 g i := by
    unfold wantN
    rw [e1, Nat.mul_assoc, Nat.mul_comm (wM 1 g i), ← Nat.mul_assoc]
  rw [← e4, e3, Nat.mul_div_cancel _ f4]
  unfold wantN
  rw [h.P.kid i hi k hk, h.M.kid i hi k hk, e2, e5, Nat.mul_assoc]
/-- what a child of a move gets -/
theorem CtH.mov (h : CtH g c pr W z) {i k : Nat} (hi : i < g.nodes.length) (hk2 : (nodeAt g i).kind = 2) (hk : k < (nodeAt g i).next.length) : wantN z pr W ((nodeAt g i).next.getD k 0).toNat = if (k : Int) = c.getD (nodeAt g i).info.toNat 0 then wantN z pr W i else 0 := by
  obtain ⟨i1, i2, _⟩ := h.G.good.inf i hi hk2
  have hin : (nodeAt g i).info.toNat < g.infos.length := by omega
  have e3 : wL g (pureT g c 1) i = pureR g c 1 (nodeAt g i).info.toNat := by unfold wL; rw [if_pos hk2, pureT_get hin]
  have e4 : wM 1 g i = 1 := by unfold wM; rw [if_neg (by omega), if_pos hk2]
  unfold wantN
  rw [h.P.kid i hi k hk, h.M.kid i hi k hk, e3, e4, pureR_get h.C hin, Nat.mul_one]
  split
  · show z / pr i * (W i * 1) = _
    rw [Nat.mul_one]
  · show z / pr i * (W i * 0) = _
    rw [Nat.mul_zero, Nat.mul_zero]
theorem PW.mono {i j q : Nat} (h : PW g i 0 j) : PW g i q j := by
  rcases h with h | ⟨p, k, h1, h2, h3, h4⟩
  · exact .inl h
  · exact .inr ⟨p, k, h1, h2, h3, by omega⟩
theorem PW.of {i k q : Nat} (hi : i < g.nodes.length) (hk : k < (nodeAt g i).next.length) (hq : k < q) {j : Nat} (hj : (nodeAt g i).next.getD k 0 = (j : Int)) : PW g i q j := .inr ⟨i, k, hi, hk, hj, .inr ⟨rfl, hq⟩⟩
theorem PW.up {i j : Nat} (h : PW g i (nodeAt g i).next.length j) : PW g (i + 1) 0 j := by
  rcases h with h | ⟨p, k, h1, h2, h3, h4⟩
  · exact .inl h
  · exact .inr ⟨p, k, h1, h2, h3, by omega⟩
/-- a child is written at its own turn alone -/
theorem PW.not (G : GoodG g) {i k q : Nat} (hi : i < g.nodes.length) (hk : k < (nodeAt g i).next.length) (hq : q ≤ k) {j : Nat} (hj : (nodeAt g i).next.getD k 0 = (j : Int)) : ¬ PW g i q j := by
  rintro (h | ⟨p, k', h1, h2, h3, h4⟩)
  · have := (G.kids i hi k hk).1; omega
  · obtain ⟨rfl, rfl⟩ := G.only hi hk h1 h2 (by rw [hj, h3])
    omega
/-- the list of counts -/
def CtL (g : PGame) (z : Nat) (pr W : Nat → Nat) (i q : Nat) (l : List Int) : Prop := l.length = g.nodes.length ∧ ∀ j, j < g.nodes.length → (PW g i q j → l.getD j 0 = ((wantN z pr W j : Nat) : Int)) ∧ (¬ PW g i q j → l.getD j 0 = 0)
theorem CtL.chn {i q : Nat} {l : List Int} (G : GoodG g) (h : CtL g z pr W i q l) (hi : i < g.nodes.length) (hq : q < (nodeAt g i).next.length) : CtL g z pr W i (q + 1) (l.set ((nodeAt g i).next.getD q 0).toNat ((wantN z pr W ((nodeAt g i).next.getD q 0).toNat : Nat) : Int)) := by
  have hb := G.kids i hi q hq
  refine ⟨by rw [List.length_set]; exact h.1, fun j hj => ?_⟩
  rw [getD_set (by rw [h.1]; omega)]
  by_cases e : j = ((nodeAt g i).next.getD q 0).toNat
  · rw [if_pos e, e]
    exact ⟨fun _ => rfl, fun hn => absurd (PW.of hi hq (Nat.lt_succ_self q) (by omega)) hn⟩
  · rw [if_neg e]
    refine ⟨fun hp => ?_, fun hn => (h.2 j hj).2 fun hp => hn ?_⟩
    · rcases hp.kid with hp | hp
      · exact (h.2 j hj).1 hp
      · omega
    · rcases hp with h' | ⟨p, k, h1, h2, h3, h4⟩
      · exact .inl h'
      · exact .inr ⟨p, k, h1, h2, h3, by omega⟩
theorem CtL.up {i : Nat} {l : List Int} (h : CtL g z pr W i (nodeAt g i).next.length l) : CtL g z pr W (i + 1) 0 l := ⟨h.1, fun j hj => ⟨fun hp => (h.2 j hj).1 hp.next, fun hn => (h.2 j hj).2 fun hp => hn hp.up⟩⟩
theorem CtL.mov {i q : Nat} {l : List Int} (H : CtH g c pr W z) (h : CtL g z pr W i 0 l) (hi : i < g.nodes.length) (hk2 : (nodeAt g i).kind = 2) (hq : q < (nodeAt g i).next.length) (hc : (q : Int) = c.getD (nodeAt g i).info.toNat 0) : CtL g z pr W (i + 1) 0 (l.set ((nodeAt g i).next.getD q 0).toNat ((wantN z pr W i : Nat) : Int)) := by
  have hb := H.G.good.kids i hi q hq
  refine ⟨by rw [List.length_set]; exact h.1, fun j hj => ?_⟩
  rw [getD_set (by rw [h.1]; omega)]
  by_cases e : j = ((nodeAt g i).next.getD q 0).toNat
  · rw [if_pos e, e, H.mov hi hk2 hq, if_pos hc]
    exact ⟨fun _ => rfl, fun hn => absurd (PW.up (PW.of hi hq hq (by omega))) hn⟩
  · rw [if_neg e]
    refine ⟨fun hp => ?_, fun hn => (h.2 j hj).2 fun hp => hn (PW.up hp.mono)⟩
    rcases hp with h' | ⟨p, k, h1, h2, h3, h4⟩
    · exact (h.2 j hj).1 (.inl h')
    · by_cases ep : p = i
      · subst ep
        rw [(h.2 j hj).2 (PW.not H.G.good h1 h2 (Nat.zero_le _) h3)]
        have := H.mov h1 hk2 h2
        rw [h3, Int.toNat_natCast] at this
        rw [this, if_neg]
        · rfl
        · intro e2
          have : k = q := by omega
          subst this
          omega
      · exact (h.2 j hj).1 (.inr ⟨p, k, h1, h2, h3, by omega⟩)
theorem CtL.fin {i : Nat} {l : List Int} (h : CtL g z pr W i 0 l) (hn : (nodeAt g i).next = []) : CtL g z pr W (i + 1) 0 l := by
  have e : (nodeAt g i).next.length = 0 := by rw [hn]; rfl
  refine CtL.up ?_
  rw [e]
  exact h
end
end Go.Ev.Gl

namespace Go.Ev.Gl
variable {fns : T AFn}

/-! ## ChoiceOf -/
def CoI (S1 : St) (gb db : Nat) (lv : AV) (dl : List Int) (g : PGame) (k : Nat) (A : Act') (X : St) : Prop := A.inr = false ∧ S1.nx ≤ X.nx ∧ (∀ c, c < S1.nx → c ≠ db → X.h.get c = S1.h.get c) ∧ DrwB X db lv dl ∧ ∃ (i : Nat) (pv : AV) (l : List Int), i + k = g.infos.length ∧ l.length = i ∧ (∀ j, j < i → 0 ≤ l.getD j 0 ∧ l.getD j 0 < (infoAt g (j : Int)).actions) ∧ GrW 1 S1 X pv i (cells64 l) ∧ tmpV 0 A.F = .ptr db 0 ∧ tmpV 3 A.F = .ptr gb 0 ∧ tmpV 5 A.F = pv ∧ tmpV 6 A.F = .int .i64 (i : Int)
theorem getD_snoc {l : List Int} {x : Int} {j : Nat} : (l ++ [x]).getD j 0 = if j = l.length then x else l.getD j 0 := by
  rw [List.getD_eq_getElem?_getD, List.getD_eq_getElem?_getD]
  by_cases e : j = l.length
  · rw [if_pos e, e, List.getElem?_append_right (Nat.le_refl _), Nat.sub_self]
    rfl
  · rw [if_neg e]
    by_cases h : j < l.length
    · rw [List.getElem?_append_left h]
    · rw [List.getElem?_eq_none (by rw [List.length_append, List.length_singleton]; omega), List.getElem?_eq_none (by omega)]
set_option maxHeartbeats 8000000 in
theorem choiceOf_spec {S : St} {db : Nat} {lv nv iv : AV} {dl : List Int} {g : PGame} (H : Has fns) (hd : DrwB S db lv dl) (hinf : ∀ X' : St, S.nx ≤ X'.nx → (∀ c, c < S.nx → c ≠ db → X'.h.get c = S.h.get c) → IsSlG 2 InfoE X' iv g.infos) (hact : ∀ i, i < g.infos.length → 1 ≤ (infoAt g (i : Int)).actions ∧ (infoAt g (i : Int)).actions ≤ 3) (hil : g.infos.length ≤ 200) :
    wpf fns (.fn 23 [] []) [.ptr db 0, .agg [.int .i64 g.players, nv, iv]] S fun r Z => SameBut db S Z ∧ DrwB Z db lv dl ∧ ∃ l, IsSl .i64 Z r l ∧ ChsOk g l ∧ ∀ c, blkOf r = some c → S.nx ≤ c := by
  have ldb := hd.lt
  have hlow := fun {c} (hc : blkOf lv = some c) => sl_low hd.il hc
  refine wpf_fn H.f23 (by simp) ?_
  simp only [↓sU, sD, reduceEqDiff, ↓reduceIte, reduceAdd]
  refine wsr ?_
  refine wpo_box (cs := [.int .i64 g.players, nv, iv]) rfl ?_
  intro S1 s1 n1 g1
  simp only [↓sU, sD, reduceEqDiff, ↓reduceIte, reduceAdd]
  have d1 : DrwB S1 db lv dl := hd.move s1.1 (s1.2 _ ldb) fun c hc => s1.2 c (hlow hc)
  refine wsr ?_
  simp only [↓sU, sD, reduceEqDiff, ↓reduceIte, reduceAdd]
  refine wss ?_
  simp only [↓sU, sD, reduceEqDiff, ↓reduceIte, reduceAdd]
  refine wpc_mono (Q := fun o A' X => o = .normal ∧ CoI S1 S.nx db lv dl g 0 A' X) (wpc_block (wpc_loop (CoI S1 S.nx db lv dl g) ?_ g.infos.length _ _ ⟨rfl, Nat.le_refl _, fun _ _ _ => rfl, d1, 0, .nilsl, [], by omega, rfl, fun j hj => absurd hj (Nat.not_lt_zero j), .inl ⟨rfl, rfl, rfl⟩, by simp only [↓sU, sD, reduceEqDiff, ↓reduceIte, reduceAdd], by simp only [↓sU, sD, reduceEqDiff, ↓reduceIte, reduceAdd], by simp only [↓sU, sD, reduceEqDiff, ↓reduceIte, reduceAdd], by simp only [↓sU, sD, reduceEqDiff, ↓reduceIte, reduceAdd]; try rfl⟩)) ?_
  · clear d1
    rintro k ⟨F, inr⟩ X ⟨q0, nX, kX, dX, i, pv, l, hik, hll, hl, hg, p0, p3, p5, p6⟩
    simp only at q0 p0 p3 p5 p6
    subst q0
    have cX := (kX S.nx (by omega) (by omega)).trans g1
    have iX := hinf X (by omega) fun c hc hne => (kX c (by omega) hne).trans (s1.2 c hc)
    refine wss ?_
    simp only [↓sU, sD, reduceEqDiff, ↓reduceIte, reduceAdd, p3, p6, evQ_faddr, faddr_ptr, lg3_2 cX, iX.len, Int.ofNat_eq_natCast]
    by_cases hlt : i < g.infos.length
    rotate_left
    · refine wpc_non (by simp only [↓sU, sD, reduceEqDiff, ↓reduceIte, reduceAdd, decide_eq_false (show ¬ (i : Int) < ((g.infos.length : Nat) : Int) by omega)]) (wpc_exit ?_)
      simp only [↓sU, sD, reduceEqDiff, ↓reduceIte, reduceAdd]
      obtain rfl : k = 0 := by omega
      exact ⟨rfl, nX, kX, dX, i, pv, l, hik, hll, hl, hg, by simp only [↓sU, sD, reduceEqDiff, ↓reduceIte, reduceAdd, p0], by simp only [↓sU, sD, reduceEqDiff, ↓reduceIte, reduceAdd, p3], by simp only [↓sU, sD, reduceEqDiff, ↓reduceIte, reduceAdd, p5], by simp only [↓sU, sD, reduceEqDiff, ↓reduceIte, reduceAdd, p6]⟩
    refine wpc_yes (by simp only [↓sU, sD, reduceEqDiff, ↓reduceIte, reduceAdd, decide_eq_true (show (i : Int) < ((g.infos.length : Nat) : Int) by omega)]) (wpc_skip ?_)
    try simp only [↓sU, sD, reduceEqDiff, ↓reduceIte, reduceAdd]
    have w1 : IntKind.i64.wrap ((i : Int) + 1) = ((i + 1 : Nat) : Int) := by rw [wrap_i64 (by omega) (by omega)]; omega
    obtain ⟨a1, a2⟩ := hact i hlt
    obtain ⟨ei, bi, qi, hii, hbi, _, hei, _, hfi⟩ := IsSlG.at iX (by decide) (infoAt_some hlt)
    have hf1 := hfi 1 (.int .i64 (infoAt g (i : Int)).actions) (by rw [hei]; rfl)
    refine wpc_seq (wpc_block (wpc_reg ?_))
    simp only [↓stU, stD, reduceEqDiff, ↓reduceIte, reduceAdd, p0, p3, p5, p6, evQ_faddr, faddr_ptr, lg3_2 cX, natOf_cast, hii, hf1]
    refine wpo_call ?_
    simp only [↓stU, stD, reduceEqDiff, ↓reduceIte, reduceAdd]
    refine wpf_mono (draw_spec H dX a1 (by omega)) ?_
    rintro _ Y ⟨bY, dY, y, rfl, hy1, hy2⟩
    try simp only [↓stU, stD, reduceEqDiff, ↓reduceIte, reduceAdd]
    refine wpo_al (evA_one (n := y) (k := .i64) (by simp only [↓stU, stD, reduceEqDiff, ↓reduceIte, reduceAdd])) ?_
    intro U u1 m1 c1
    have nY := bY.1
    have hgU : GrW 1 ⟨U.h, S1.nx⟩ U pv i (cells64 l) := (hg.move (S' := Y) nY fun c hc => bY.2 c (hg.blk hc).2.1 (by have := (hg.blk hc).1; omega)).step u1
    obtain ⟨pv', Z, eA, gA, bA, nA, rA⟩ := GrW.push1 (bytes := 8) (x := .int .i64 y) hgU ⟨by have := u1.1; show S1.nx ≤ U.nx; omega, fun _ _ => rfl⟩ c1 (by unfold room; omega) (by unfold room; omega)
    refine wpo_x (v := pv') (S1 := Z) (fun call => by simp only [↓stU, stD, reduceEqDiff, ↓reduceIte, reduceAdd, evX_app]; exact eA) ?_
    simp only [↓stU, stD, reduceEqDiff, ↓reduceIte, reduceAdd]
    refine wpc_reg ?_
    simp only [↓sU, sD, reduceEqDiff, ↓reduceIte, reduceAdd, p6, w1]
    have hpb : ∀ {c}, blkOf pv = some c → S1.nx ≤ c := fun hc => (hg.blk hc).1
    have nU := u1.1
    have ldbX := dX.lt
    refine ⟨k - 1, by omega, rfl, by omega, fun c hc hne => ?_, ?_, i + 1, pv', l ++ [y], by omega, by rw [List.length_append, hll]; rfl, fun j hj => ?_, ?_, by simp only [↓sU, sD, reduceEqDiff, ↓reduceIte, reduceAdd, p0], by simp only [↓sU, sD, reduceEqDiff, ↓reduceIte, reduceAdd, p3], by simp only [↓sU, sD, reduceEqDiff, ↓reduceIte, reduceAdd], by simp only [↓sU, sD, reduceEqDiff, ↓reduceIte, reduceAdd]⟩
    · rw [rA c (by omega) (fun e => by have := hpb e; omega), u1.2 c (by omega), bY.2 c (by omega) hne]
      exact kX c hc hne
    · refine dY.move (by omega) ?_ fun c hc => ?_
      · rw [rA db (by omega) (fun e => by have := hpb e; omega)]
        exact u1.2 db (by omega)
      · have := hlow hc
        rw [rA c (by omega) (fun e => by have := hpb e; omega)]
        exact u1.2 c (by omega)
    · rw [getD_snoc, hll]
      by_cases e : j = i
      · subst e; rw [if_pos rfl]; exact ⟨hy1, hy2⟩
      · rw [if_neg e]; exact hl j (by omega)
    · have e : cells64 (l ++ [y]) = cells64 l ++ [.int .i64 y] := by unfold cells64; rw [List.map_append]; rfl
      rw [e]
      exact gA
  rintro o ⟨F, inr⟩ X ⟨rfl, q0, nX, kX, dX, i, pv, l, hik, hll, hl, hg, p0, p3, p5, p6⟩
  simp only at q0 p5
  subst q0
  obtain rfl : i = g.infos.length := by omega
  try simp only [↓sU, sD, reduceEqDiff, ↓reduceIte, reduceAdd]
  refine wsr ?_
  simp only [↓sU, sD, reduceEqDiff, ↓reduceIte, reduceAdd, p5]
  refine wpc_ret ?_
  simp only [↓sU, sD, reduceEqDiff, ↓reduceIte, reduceAdd]
  refine ⟨⟨by omega, fun c hc hne => (kX c (by omega) hne).trans (s1.2 c hc)⟩, dX, l, ?_, ⟨hll, hl⟩, fun c hc => by have := (hg.blk hc).1; omega⟩
  rw [← hll] at hg
  exact GrW.is hg
end Go.Ev.Gl

namespace Go.Ev.Gl
variable {fns : T AFn}

/-! ## How many seeds come to each node, with choices -/
noncomputable def cntP : List AO := [⟨(some 61),(.q (.mv (.t 7))),none,0⟩,
⟨(some 62),(.q (.faddr 3 (.t 9))),none,0⟩,
⟨(some 63),(.q (.ld false 1 (.t 62))),none,2⟩,
⟨(some 64),(.q (.mv (.t 1))),none,0⟩,
⟨(some 65),(.q (.faddr 2 (.t 9))),none,0⟩,
⟨(some 66),(.q (.ld false 1 (.t 65))),none,16⟩,
⟨(some 67),(.q (.iaddr (.slice 1) (.t 64) (.t 66))),none,56⟩,
⟨(some 68),(.q (.ld false 1 (.t 67))),none,120⟩,
⟨(some 69),(.q (.iaddr (.slice 1) (.t 63) (.t 68))),none,254⟩,
⟨(some 70),(.q (.ld false 1 (.t 69))),none,510⟩,
⟨(some 71),(.q (.mv (.t 7))),none,0⟩,
⟨(some 72),(.q (.mv (.t 8))),none,0⟩,
⟨(some 73),(.q (.iaddr (.slice 1) (.t 71) (.t 72))),none,3072⟩,
⟨(some 74),(.q (.ld false 1 (.t 73))),none,7168⟩,
⟨(some 75),(.q (.iaddr (.slice 1) (.t 61) (.t 70))),none,16383⟩]
structure CnB (S1 X : St) (gb ob : Nat) (nv cv : AV) (g : PGame) (F : Fr) (i : Nat) : Prop where
  same : Same S1 X
  lo : ob < X.nx
  t1 : tmpV 1 F = cv
  t3 : tmpV 3 F = .ptr gb 0
  t7 : tmpV 7 F = .sl ob 0 g.nodes.length g.nodes.length false
  t21 : tmpV 21 F = nv
  t22 : tmpV 22 F = .int .i64 ((g.nodes.length : Nat) : Int)
  t23 : tmpV 23 F = .int .i64 (i : Int)
def CnI (S1 : St) (gb ob : Nat) (nv cv : AV) (g : PGame) (z : Nat) (pr W : Nat → Nat) (k : Nat) (A : Act') (X : St) : Prop := A.inr = false ∧ ∃ (i : Nat) (l : List Int), i + k = g.nodes.length ∧ CtL g z pr W i 0 l ∧ X.h.get ob = some (.cells (cells64 l) false 0) ∧ CnB S1 X gb ob nv cv g A.F i
def CkI (S1 : St) (gb ob xb : Nat) (nv cv xa : AV) (cx : Option AB) (g : PGame) (z : Nat) (pr W : Nat → Nat) (i R : Nat) (k : Nat) (A : Act') (X : St) : Prop := A.inr = false ∧ xb < X.nx ∧ X.h.get xb = cx ∧ ∃ (q : Nat) (l : List Int), q + k = (nodeAt g i).next.length ∧ CtL g z pr W i q l ∧ X.h.get ob = some (.cells (cells64 l) false 0) ∧ CnB S1 X gb ob nv cv g A.F i ∧ tmpV 9 A.F = .ptr xb 0 ∧ tmpV 10 A.F = .int .i64 (R : Int) ∧ tmpV 41 A.F = xa ∧ tmpV 42 A.F = .int .i64 (((nodeAt g i).next.length : Nat) : Int) ∧ tmpV 43 A.F = .int .i64 (q : Int)
set_option maxHeartbeats 16000000 in
theorem counts_spec {S : St} {nv iv cv : AV} {g : PGame} {c : List Int} {pr W : Nat → Nat} {z : Nat} (H : Has fns) (h : CtH g c pr W z) (hn : IsSlG 6 NodeE S nv g.nodes) (hc : IsSl .i64 S cv c) :
    wpf fns (.fn 90 [] []) [.agg [.int .i64 g.players, nv, iv], cv, .int .i64 (z : Int)] S fun r X => Same S X ∧ ∃ l, IsSl .i64 X r l ∧ l.length = g.nodes.length ∧ ∀ j, j < g.nodes.length → l.getD j 0 = ((wantN z pr W j : Nat) : Int) := by
  have hN1 := h.G.good.n1
  have hN2 := h.G.good.n2
  have snv := IsSlG.self hn
  refine wpf_fn H.f90 (by simp) ?_
  simp only [↓sU, sD, reduceEqDiff, ↓reduceIte, reduceAdd]
  refine wsr ?_
  refine wpo_box (cs := [.int .i64 g.players, nv, iv]) rfl ?_
  intro S1 s1 n1 g1
  simp only [↓sU, sD, reduceEqDiff, ↓reduceIte, reduceAdd]
  have hn1 := IsSlG.same (E := NodeE) firm_node hn s1
  have hc1 := hc.same s1
  refine wsr ?_
  simp only [↓stU, stD, reduceEqDiff, ↓reduceIte, reduceAdd, evQ_faddr, faddr_ptr, lg3_1 g1, hn1.len]
  refine wpo_al (evA_mk (n := g.nodes.length) (by simp only [↓stU, stD, reduceEqDiff, ↓reduceIte, reduceAdd, natOf_cast]) (by simp only [↓stU, stD, reduceEqDiff, ↓reduceIte, reduceAdd, natOf_cast]) (by unfold room; omega) (by unfold room; omega)) ?_
  intro S2 s2 n2 g2
  rw [zeros64] at g2
  simp only [↓stU, stD, reduceEqDiff, ↓reduceIte, reduceAdd]
  have hi0 := row_ia (b := S1.nx) (o := false) hN1
  refine wsr ?_
  simp only [↓sU, sD, reduceEqDiff, ↓reduceIte, reduceAdd, nat0, hi0]
  refine wpo_x (v := .undef) (S1 := ⟨S2.h.set S1.nx (some (.cells (cells64 ((List.replicate g.nodes.length 0).set 0 (z : Int))) false 0)), S2.nx⟩) (fun call => by simp only [↓sU, sD, reduceEqDiff, ↓reduceIte, reduceAdd, evX_st, cells_int]; exact st64 (S := S2) g2 (by rw [List.length_replicate]; exact hN1)) ?_
  simp only [↓sU, sD, reduceEqDiff, ↓reduceIte, reduceAdd]
  obtain ⟨S3, hS3⟩ : ∃ Z : St, Z = ⟨S2.h.set S1.nx (some (.cells (cells64 ((List.replicate g.nodes.length 0).set 0 (z : Int))) false 0)), S2.nx⟩ := ⟨_, rfl⟩
  have n3 : S3.nx = S2.nx := by rw [hS3]
  have s13 : Same S1 S3 := ⟨by omega, fun b hb => by rw [hS3]; simp only; rw [T.get_set, if_neg (by omega)]; exact s2.2 b hb⟩
  have g3 : S3.h.get S1.nx = some (.cells (cells64 ((List.replicate g.nodes.length 0).set 0 (z : Int))) false 0) := by rw [hS3]; simp only; rw [T.get_set, if_pos rfl]
  rw [← hS3]
  clear hS3 g2 s2 hi0
  have c3 := (s13.2 S.nx (by omega)).trans g1
  have hl0 : CtL g z pr W 0 0 ((List.replicate g.nodes.length 0).set 0 (z : Int)) := by
    refine ⟨by simp, fun j hj => ?_⟩
    rw [getD_set0 (by rw [List.length_replicate]; exact hN1)]
    have w0 : wantN z pr W 0 = z := by
      unfold wantN
      rw [h.P.zero, h.M.zero, Nat.div_one, Nat.mul_one]
    by_cases e : 0 = j
    · rw [if_pos e, ← e, w0]
      exact ⟨fun _ => rfl, fun hne => absurd (.inl rfl) hne⟩
    · rw [if_neg e]
      refine ⟨fun hp => ?_, fun _ => getD_rep0 hj⟩
      rcases hp with h' | ⟨p, k, _, _, _, h'⟩
      · exact absurd h'.symm e
      · omega
  refine wss ?_
  simp only [↓sU, sD, reduceEqDiff, ↓reduceIte, reduceAdd, evQ_faddr, faddr_ptr, lg3_1 c3, (IsSlG.same (E := NodeE) firm_node hn1 s13).len, snv]
  refine wpc_mono (Q := fun o A' X => o = .normal ∧ CnI S1 S.nx S1.nx nv cv g z pr W 0 A' X) (wpc_block (wpc_loop (CnI S1 S.nx S1.nx nv cv g z pr W) ?_ g.nodes.length _ _ ⟨rfl, 0, _, by omega, hl0, g3, s13, by omega, by simp only [↓sU, sD, reduceEqDiff, ↓reduceIte, reduceAdd], by simp only [↓sU, sD, reduceEqDiff, ↓reduceIte, reduceAdd], by simp only [↓sU, sD, reduceEqDiff, ↓reduceIte, reduceAdd]; try rfl, by simp only [↓sU, sD, reduceEqDiff, ↓reduceIte, reduceAdd]; try rfl, by simp only [↓sU, sD, reduceEqDiff, ↓reduceIte, reduceAdd]; try rfl, by simp only [↓sU, sD, reduceEqDiff, ↓reduceIte, reduceAdd]; try rfl⟩)) ?_
  rotate_left
  · rintro o ⟨F, inr⟩ X ⟨rfl, q0, i, l, hik, hl, gX, B⟩
    simp only at q0 B
    subst q0
    obtain rfl : i = g.nodes.length := by omega
    have hl1 := hl.1
    try simp only [↓sU, sD, reduceEqDiff, ↓reduceIte, reduceAdd]
    refine wsr ?_
    simp only [↓sU, sD, reduceEqDiff, ↓reduceIte, reduceAdd, B.t7]
    refine wpc_ret ?_
    simp only [↓sU, sD, reduceEqDiff, ↓reduceIte, reduceAdd]
    refine ⟨s1.trans B.same, l, .inr ⟨S1.nx, 0, g.nodes.length, false, cells64 l, by rw [hl.1], by omega, B.lo, by unfold cellsAt; rw [gX]; rfl, fun j x hj => ?_⟩, hl.1, fun j hj => (hl.2 j hj).1 (PW.at_ h.G.good hj (by omega))⟩
    rw [Nat.zero_add]
    unfold cells64
    rw [List.getElem?_map, hj]
    rfl
  clear hl0 g3 c3 s13 n3 n2 S3 S2
  rintro k ⟨F, inr⟩ V ⟨q0, i, l, hik, hl, gV, B⟩
  simp only at q0 B
  subst q0
  have nV := B.same.1
  have lo := B.lo
  refine wsr ?_
  simp only [↓sU, sD, reduceEqDiff, ↓reduceIte, reduceAdd, B.t22, B.t23]
  by_cases hlt : i < g.nodes.length
  rotate_left
  · refine wpc_seq (wpc_non (by simp only [↓sU, sD, reduceEqDiff, ↓reduceIte, reduceAdd, decide_eq_false (show ¬ (i : Int) < ((g.nodes.length : Nat) : Int) by omega)]) (wpc_exit ?_))
    simp only [↓sU, sD, reduceEqDiff, ↓reduceIte, reduceAdd]
    obtain rfl : k = 0 := by omega
    exact ⟨rfl, i, l, hik, hl, gV, B.same, B.lo, by simp only [↓sU, sD, reduceEqDiff, ↓reduceIte, reduceAdd, B.t1], by simp only [↓sU, sD, reduceEqDiff, ↓reduceIte, reduceAdd, B.t3], by simp only [↓sU, sD, reduceEqDiff, ↓reduceIte, reduceAdd, B.t7], by simp only [↓sU, sD, reduceEqDiff, ↓reduceIte, reduceAdd, B.t21], by simp only [↓sU, sD, reduceEqDiff, ↓reduceIte, reduceAdd, B.t22], by simp only [↓sU, sD, reduceEqDiff, ↓reduceIte, reduceAdd, B.t23]⟩
  refine wpc_seq (wpc_yes (by simp only [↓sU, sD, reduceEqDiff, ↓reduceIte, reduceAdd, decide_eq_true (show (i : Int) < ((g.nodes.length : Nat) : Int) by omega)]) (wpc_skip ?_))
  try simp only [↓sU, sD, reduceEqDiff, ↓reduceIte, reduceAdd]
  obtain ⟨_, bx, qx, hiax, hbx, _, ⟨xa, xw, xp, rfl, hxa, hxw, hxp⟩, hldx, _⟩ := IsSlG.at hn1 (by decide) (nodeAt_some hlt)
  rw [← ldSame B.same hbx] at hldx
  have w0 : IntKind.i64.wrap ((i : Int) + 1) = ((i + 1 : Nat) : Int) := by rw [wrap_i64 (by omega) (by omega)]; omega
  refine wpc_seq (wpc_block (wpc_seq (wpc_reg ?_)))
  simp only [↓stU, stD, reduceEqDiff, ↓reduceIte, reduceAdd, B.t21, B.t23, natOf_cast, hiax, hldx]
  refine wpo_alloc ?_
  intro W1 v1 k1 h1
  simp only [↓stU, stD, reduceEqDiff, ↓reduceIte, reduceAdd]
  refine wpo_st (b := V.nx) (by simp only [↓stU, stD, reduceEqDiff, ↓reduceIte, reduceAdd]) (by simp only [↓stU, stD, reduceEqDiff, ↓reduceIte, reduceAdd]; exact cells_agg _) h1 rfl rfl ?_
  intro Y v2 k2 h2
  simp only [↓stU, stD, reduceEqDiff, ↓reduceIte, reduceAdd]
  have sVY : Same V Y := v2.same v1 (Nat.le_refl _)
  have gY := (sVY.2 _ lo).trans gV
  have sY := B.same.trans sVY
  have lxY : V.nx < Y.nx := by omega
  have nxo : V.nx ≠ S1.nx := by omega
  have t1 := B.t1
  have t3 := B.t3
  have t7 := B.t7
  have t21 := B.t21
  have t22 := B.t22
  have t23 := B.t23
  clear v1 v2 h1 k1 gV B
  refine wsr ?_
  simp only [↓sU, sD, reduceEqDiff, ↓reduceIte, reduceAdd, evQ_faddr, faddr_ptr, ld6_0 h2]
  refine wpc_mono (Q := fun o A' X => o = .normal ∧ A'.inr = false ∧ ∃ l', CtL g z pr W (i + 1) 0 l' ∧ X.h.get S1.nx = some (.cells (cells64 l') false 0) ∧ CnB S1 X S.nx S1.nx nv cv g A'.F i) (wpc_block (wpc_seq (wpc_reg ?_))) ?_
  rotate_left
  · rintro o ⟨F, inr⟩ Z ⟨rfl, q0, l', hl', gZ, BZ⟩
    simp only at q0 BZ
    subst q0
    try simp only [↓sU, sD, reduceEqDiff, ↓reduceIte, reduceAdd]
    refine wpc_reg ?_
    simp only [↓sU, sD, reduceEqDiff, ↓reduceIte, reduceAdd, BZ.t23, w0]
    exact ⟨k - 1, by omega, rfl, i + 1, l', by omega, hl', gZ, BZ.same, BZ.lo, by simp only [↓sU, sD, reduceEqDiff, ↓reduceIte, reduceAdd, BZ.t1], by simp only [↓sU, sD, reduceEqDiff, ↓reduceIte, reduceAdd, BZ.t3], by simp only [↓sU, sD, reduceEqDiff, ↓reduceIte, reduceAdd, BZ.t7], by simp only [↓sU, sD, reduceEqDiff, ↓reduceIte, reduceAdd, BZ.t21], by simp only [↓sU, sD, reduceEqDiff, ↓reduceIte, reduceAdd, BZ.t22], by simp only [↓sU, sD, reduceEqDiff, ↓reduceIte, reduceAdd]⟩
  simp only [↓sU, sD, reduceEqDiff, ↓reduceIte, reduceAdd]
  have hiO := row_ia (b := S1.nx) (o := false) (N := g.nodes.length) hlt
  have hlO := ld64 gY (show i < l.length by rw [hl.1]; exact hlt)
  rw [(hl.2 i hlt).1 (PW.at_ h.G.good hlt (Nat.le_refl _))] at hlO
  have hwb := h.wle hlt
  have sxa := IsSl.self hxa
  have sxw := IsSl.self hxw
  have sxp := IsSl.self hxp
  have sag := agg_node (x0 := (nodeAt g i).kind) (x1 := (nodeAt g i).player) (x2 := (nodeAt g i).info) (k := .i64) sxa sxw sxp
  have hnode : NodeE S1 [.int .i64 (nodeAt g i).kind, .int .i64 (nodeAt g i).player, .int .i64 (nodeAt g i).info, xa, xw, xp] (nodeAt g i) := ⟨xa, xw, xp, rfl, hxa, hxw, hxp⟩
  have hnx := h.G.good.nxt i hlt
  rcases h.G.knd i hlt with hk1 | hk2 | hk3
  · obtain ⟨hsm, hs1⟩ := h.G.small hlt hk1
    have hwl := h.G.good.wts i hlt hk1
    obtain ⟨sm, hse⟩ : ∃ sm : Nat, (nodeAt g i).weights.sum = (sm : Int) := ⟨(nodeAt g i).weights.sum.toNat, by omega⟩
    refine wpc_yes (by simp only [↓sU, sD, reduceEqDiff, ↓reduceIte, reduceAdd, decide_eq_true hk1]) ?_
    have hb : ∀ (F : Fr) (h : Ev.T AB), evQ (.build [] []) F h = some (.agg []) := fun _ _ => rfl
    have hib : isLoad (.build [] []) = false := rfl
    have ldn := ldN h2
    have loY : S1.nx < Y.nx := by omega
    refine wpc_seq (wpc_drd1 (fun _ => False) ?_)
    intro Y1 y1
    simp only [↓sU, sD, reduceEqDiff, ↓reduceIte, reduceAdd, t7, t23, natOf_cast, hiO, hlO, hb, hib, ldn, sag, loY, lxY, same_int, not_false_eq_true]
    refine runD_call0 rfl ?_
    simp only [↓sU, sD, reduceEqDiff, ↓reduceIte, reduceAdd]
    refine wpf_mono (radix_spec H rfl (firm_node hnode (sY.trans y1)) hsm) ?_
    rintro _ Z ⟨rfl, hZ⟩
    refine ⟨hZ, ?_⟩
    have sYZ := y1.trans hZ
    have h2Z := (sYZ.2 _ lxY).trans h2
    have gZ := (sYZ.2 _ loY).trans gY
    have sZ := sY.trans sYZ
    have nZ := sYZ.1
    have hquo := bin_quo_i (.p .int) (a := ((wantN z pr W i : Nat) : Int)) (b := (sm : Int)) (by omega) (by omega) (by omega)
    rw [← Int.natCast_ediv] at hquo
    simp only [↓sU, sD, reduceEqDiff, ↓reduceIte, reduceAdd, hse, hquo]
    refine wsr ?_
    simp only [↓sU, sD, reduceEqDiff, ↓reduceIte, reduceAdd, evQ_faddr, faddr_ptr, ld6_3 h2Z, (hxa.same sZ).len]
    refine wpc_mono (Q := fun o A' X => o = .normal ∧ CkI S1 S.nx S1.nx V.nx nv cv xa (some (.cells [.int .i64 (nodeAt g i).kind, .int .i64 (nodeAt g i).player, .int .i64 (nodeAt g i).info, xa, xw, xp] false 0)) g z pr W i (wantN z pr W i / sm) 0 A' X) (wpc_block (wpc_loop (CkI S1 S.nx S1.nx V.nx nv cv xa (some (.cells [.int .i64 (nodeAt g i).kind, .int .i64 (nodeAt g i).player, .int .i64 (nodeAt g i).info, xa, xw, xp] false 0)) g z pr W i (wantN z pr W i / sm)) ?_ (nodeAt g i).next.length _ _ ⟨rfl, by show V.nx < Z.nx; omega, h2Z, 0, l, by omega, hl, gZ, ⟨sZ, by show S1.nx < Z.nx; omega, by simp only [↓sU, sD, reduceEqDiff, ↓reduceIte, reduceAdd, t1], by simp only [↓sU, sD, reduceEqDiff, ↓reduceIte, reduceAdd, t3], by simp only [↓sU, sD, reduceEqDiff, ↓reduceIte, reduceAdd, t7], by simp only [↓sU, sD, reduceEqDiff, ↓reduceIte, reduceAdd, t21], by simp only [↓sU, sD, reduceEqDiff, ↓reduceIte, reduceAdd, t22], by simp only [↓sU, sD, reduceEqDiff, ↓reduceIte, reduceAdd, t23]⟩, by simp only [↓sU, sD, reduceEqDiff, ↓reduceIte, reduceAdd], by simp only [↓sU, sD, reduceEqDiff, ↓reduceIte, reduceAdd], by simp only [↓sU, sD, reduceEqDiff, ↓reduceIte, reduceAdd], by simp only [↓sU, sD, reduceEqDiff, ↓reduceIte, reduceAdd]; try rfl, by simp only [↓sU, sD, reduceEqDiff, ↓reduceIte, reduceAdd]; try rfl⟩)) ?_
    rotate_left
    · rintro o ⟨F, inr⟩ X ⟨rfl, q0, _, _, q, l', hq, hl', gX, BX, _⟩
      simp only at q0 BX
      subst q0
      obtain rfl : q = (nodeAt g i).next.length := by omega
      simp only [↓sU, sD, reduceEqDiff, ↓reduceIte, reduceAdd]
      exact ⟨l', hl'.up, gX, BX⟩
    clear hquo gZ h2Z sZ sYZ hZ y1 ldn hb hib t1 t3 t7 t21 t22 t23
    rintro k2 ⟨F, inr⟩ X ⟨q0, lxX, hX, q, l', hqk, hl', gX, BX, t9, t10, t41, t42, t43⟩
    simp only at q0 BX t9 t10 t41 t42 t43
    subst q0
    refine wsr ?_
    simp only [↓sU, sD, reduceEqDiff, ↓reduceIte, reduceAdd, t42, t43]
    by_cases hj : q < (nodeAt g i).next.length
    rotate_left
    · refine wpc_seq (wpc_non (by simp only [↓sU, sD, reduceEqDiff, ↓reduceIte, reduceAdd, decide_eq_false (show ¬ (q : Int) < (((nodeAt g i).next.length : Nat) : Int) by omega)]) (wpc_exit ?_))
      simp only [↓sU, sD, reduceEqDiff, ↓reduceIte, reduceAdd]
      obtain rfl : k2 = 0 := by omega
      exact ⟨rfl, lxX, hX, q, l', hqk, hl', gX, ⟨BX.same, BX.lo, by simp only [↓sU, sD, reduceEqDiff, ↓reduceIte, reduceAdd, BX.t1], by simp only [↓sU, sD, reduceEqDiff, ↓reduceIte, reduceAdd, BX.t3], by simp only [↓sU, sD, reduceEqDiff, ↓reduceIte, reduceAdd, BX.t7], by simp only [↓sU, sD, reduceEqDiff, ↓reduceIte, reduceAdd, BX.t21], by simp only [↓sU, sD, reduceEqDiff, ↓reduceIte, reduceAdd, BX.t22], by simp only [↓sU, sD, reduceEqDiff, ↓reduceIte, reduceAdd, BX.t23]⟩, by simp only [↓sU, sD, reduceEqDiff, ↓reduceIte, reduceAdd, t9], by simp only [↓sU, sD, reduceEqDiff, ↓reduceIte, reduceAdd, t10], by simp only [↓sU, sD, reduceEqDiff, ↓reduceIte, reduceAdd, t41], by simp only [↓sU, sD, reduceEqDiff, ↓reduceIte, reduceAdd, t42], by simp only [↓sU, sD, reduceEqDiff, ↓reduceIte, reduceAdd, t43]⟩
    refine wpc_seq (wpc_yes (by simp only [↓sU, sD, reduceEqDiff, ↓reduceIte, reduceAdd, decide_eq_true (show (q : Int) < (((nodeAt g i).next.length : Nat) : Int) by omega)]) (wpc_skip ?_))
    try simp only [↓sU, sD, reduceEqDiff, ↓reduceIte, reduceAdd]
    obtain ⟨b1, b2⟩ := h.G.good.kids i hlt q hj
    have hxaX := hxa.same BX.same
    have hxwX := hxw.same BX.same
    have hia := hxaX.iaddr hj
    have hla := hxaX.ld hj
    have hiw := hxwX.iaddr (show q < (nodeAt g i).weights.length by omega)
    have hlw := hxwX.ld (show q < (nodeAt g i).weights.length by omega)
    have hge := (hsm.2 _ (getD_mem (show q < (nodeAt g i).weights.length by omega))).1
    obtain ⟨u, hu⟩ : ∃ u : Nat, (nodeAt g i).weights.getD q 0 = (u : Int) := ⟨((nodeAt g i).weights.getD q 0).toNat, by omega⟩
    rw [hu] at hlw
    have hch := h.chn hlt hk1 hj
    rw [hse, hu, Int.toNat_natCast, Int.toNat_natCast] at hch
    have hcN : ((nodeAt g i).next.getD q 0).toNat < g.nodes.length := by omega
    have hcb := h.wle hcN
    have hw2 : IntKind.i64.wrap (((wantN z pr W i / sm : Nat) : Int) * (u : Int)) = ((wantN z pr W ((nodeAt g i).next.getD q 0).toNat : Nat) : Int) := by
      rw [← Int.natCast_mul, hch]
      exact wrap_i64 (by omega) (by omega)
    have hnc := natOf_nn (k := .i64) (show 0 ≤ (nodeAt g i).next.getD q 0 by omega)
    have hi2 := row_ia (b := S1.nx) (o := false) (N := g.nodes.length) hcN
    have w1 : IntKind.i64.wrap ((q : Int) + 1) = ((q + 1 : Nat) : Int) := by rw [wrap_i64 (by omega) (by omega)]; omega
    refine wpc_seq (wpc_block (wpc_seq (wpc_reg ?_)))
    simp only [↓sU, sD, reduceEqDiff, ↓reduceIte, reduceAdd, t41, t43, natOf_cast, hia, hla]
    refine wpc_reg ?_
    simp only [↓sU, sD, reduceEqDiff, ↓reduceIte, reduceAdd, BX.t7, t9, t10, evQ_faddr, faddr_ptr, ld6_4 hX, natOf_cast, hiw, hlw, hw2, hnc, hi2]
    refine wpo_x (v := .undef) (S1 := ⟨X.h.set S1.nx (some (.cells (cells64 (l'.set ((nodeAt g i).next.getD q 0).toNat ((wantN z pr W ((nodeAt g i).next.getD q 0).toNat : Nat) : Int))) false 0)), X.nx⟩) (fun call => by simp only [↓sU, sD, reduceEqDiff, ↓reduceIte, reduceAdd, evX_st, cells_int]; exact st64 gX (by rw [hl'.1]; exact hcN)) ?_
    simp only [↓sU, sD, reduceEqDiff, ↓reduceIte, reduceAdd]
    refine wpc_reg ?_
    simp only [↓sU, sD, reduceEqDiff, ↓reduceIte, reduceAdd, t43, w1]
    have loX := BX.lo
    have nX := BX.same.1
    refine ⟨k2 - 1, by omega, rfl, lxX, by simp only; rw [T.get_set, if_neg nxo]; exact hX, q + 1, _, by omega, hl'.chn h.G.good hlt hj, by simp only; rw [T.get_set, if_pos rfl], ⟨⟨nX, fun b hb => by simp only; rw [T.get_set, if_neg (by omega)]; exact BX.same.2 b hb⟩, loX, by simp only [↓sU, sD, reduceEqDiff, ↓reduceIte, reduceAdd, BX.t1], by simp only [↓sU, sD, reduceEqDiff, ↓reduceIte, reduceAdd, BX.t3], by simp only [↓sU, sD, reduceEqDiff, ↓reduceIte, reduceAdd, BX.t7], by simp only [↓sU, sD, reduceEqDiff, ↓reduceIte, reduceAdd, BX.t21], by simp only [↓sU, sD, reduceEqDiff, ↓reduceIte, reduceAdd, BX.t22], by simp only [↓sU, sD, reduceEqDiff, ↓reduceIte, reduceAdd, BX.t23]⟩, by simp only [↓sU, sD, reduceEqDiff, ↓reduceIte, reduceAdd, t9], by simp only [↓sU, sD, reduceEqDiff, ↓reduceIte, reduceAdd, t10], by simp only [↓sU, sD, reduceEqDiff, ↓reduceIte, reduceAdd, t41], by simp only [↓sU, sD, reduceEqDiff, ↓reduceIte, reduceAdd, t42], by simp only [↓sU, sD, reduceEqDiff, ↓reduceIte, reduceAdd]⟩
  · obtain ⟨i1, i2, i3⟩ := h.G.good.inf i hlt hk2
    have hin : (nodeAt g i).info.toNat < g.infos.length := by omega
    obtain ⟨c1, c2⟩ := h.C.ok _ hin
    rw [Int.toNat_of_nonneg i1, i3] at c2
    obtain ⟨u, hu⟩ : ∃ u : Nat, c.getD (nodeAt g i).info.toNat 0 = (u : Int) := ⟨(c.getD (nodeAt g i).info.toNat 0).toNat, by omega⟩
    have huN : u < (nodeAt g i).next.length := by omega
    have hcl := h.C.len
    have hcY := hc1.same sY
    have hxaY := hxa.same sY
    have hii := hcY.iaddr (show (nodeAt g i).info.toNat < c.length by omega)
    have hil := hcY.ld (show (nodeAt g i).info.toNat < c.length by omega)
    rw [hu] at hil
    have hia := hxaY.iaddr huN
    have hla := hxaY.ld huN
    obtain ⟨b1, b2⟩ := h.G.good.kids i hlt u huN
    have hcN : ((nodeAt g i).next.getD u 0).toNat < g.nodes.length := by omega
    have hnc := natOf_nn (k := .i64) (show 0 ≤ (nodeAt g i).next.getD u 0 by omega)
    have hni := natOf_nn (k := .i64) i1
    have hi2 := row_ia (b := S1.nx) (o := false) (N := g.nodes.length) hcN
    have scv := IsSl.self hcY
    refine wpc_non (by simp only [↓sU, sD, reduceEqDiff, ↓reduceIte, reduceAdd, decide_eq_false (show ¬ (nodeAt g i).kind = 1 by omega)]) ?_
    refine wsr ?_
    simp only [↓sU, sD, reduceEqDiff, ↓reduceIte, reduceAdd]
    refine wpc_yes (by simp only [↓sU, sD, reduceEqDiff, ↓reduceIte, reduceAdd, decide_eq_true hk2]) ?_
    refine wpc_drs' (pre := cntP) (K := 15) (m := 32767) (n := 1) (x := .t 75) (v := .t 74) rfl rfl rfl rfl ?_
    unfold cntP
    simp only [↓sU, sD, reduceEqDiff, ↓reduceIte, reduceAdd, t1, t7, t23, evQ_faddr, isLoad_faddr, faddr_ptr, ld6_3 h2, ld6_2 h2, sxa, natOf_cast, hni, hii, hil, hia, hla, hnc, hi2, hiO, hlO]
    simp only [cells_int, osel_some]
    refine ⟨_, st64 (S := ⟨Y.h, Y.nx + 16⟩) gY (by rw [hl.1]; exact hcN), ?_⟩
    have nY := sY.1
    try simp only [↓sU, sD, reduceEqDiff, ↓reduceIte, reduceAdd]
    refine ⟨_, CtL.mov h hl hlt hk2 huN hu.symm, by first | (rw [T.get_set, if_pos rfl]; done) | (simp only; rw [T.get_set, if_pos rfl]), ⟨⟨by show S1.nx ≤ Y.nx + 16; omega, fun b hb => by first | (rw [T.get_set, if_neg (by omega)]; exact sY.2 b hb) | (simp only; rw [T.get_set, if_neg (by omega)]; exact sY.2 b hb)⟩, by show S1.nx < Y.nx + 16; omega, by simp only [↓sU, sD, reduceEqDiff, ↓reduceIte, reduceAdd, t1], by simp only [↓sU, sD, reduceEqDiff, ↓reduceIte, reduceAdd, t3], by simp only [↓sU, sD, reduceEqDiff, ↓reduceIte, reduceAdd, t7], by simp only [↓sU, sD, reduceEqDiff, ↓reduceIte, reduceAdd, t21], by simp only [↓sU, sD, reduceEqDiff, ↓reduceIte, reduceAdd, t22], by simp only [↓sU, sD, reduceEqDiff, ↓reduceIte, reduceAdd, t23]⟩⟩
  · refine wpc_non (by simp only [↓sU, sD, reduceEqDiff, ↓reduceIte, reduceAdd, decide_eq_false (show ¬ (nodeAt g i).kind = 1 by omega)]) ?_
    refine wsr ?_
    simp only [↓sU, sD, reduceEqDiff, ↓reduceIte, reduceAdd]
    refine wpc_non (by simp only [↓sU, sD, reduceEqDiff, ↓reduceIte, reduceAdd, decide_eq_false (show ¬ (nodeAt g i).kind = 2 by omega)]) (wpc_skip ?_)
    simp only [↓sU, sD, reduceEqDiff, ↓reduceIte, reduceAdd]
    exact ⟨l, hl.fin (h.G.fin i hlt hk3), gY, ⟨sY, by omega, by simp only [↓sU, sD, reduceEqDiff, ↓reduceIte, reduceAdd, t1], by simp only [↓sU, sD, reduceEqDiff, ↓reduceIte, reduceAdd, t3], by simp only [↓sU, sD, reduceEqDiff, ↓reduceIte, reduceAdd, t7], by simp only [↓sU, sD, reduceEqDiff, ↓reduceIte, reduceAdd, t21], by simp only [↓sU, sD, reduceEqDiff, ↓reduceIte, reduceAdd, t22], by simp only [↓sU, sD, reduceEqDiff, ↓reduceIte, reduceAdd, t23]⟩⟩
end Go.Ev.Gl

namespace Go.Ev.Gl
variable {fns : T AFn}

/-! ## Reach -/
theorem ChsOk.e {g : PGame} {c : List Int} (C : ChsOk g c) : chsE g c = 0 := chsE_ok C.len fun i hi => C.ok i (by rw [← C.len]; exact hi)
set_option maxHeartbeats 4000000 in
theorem reach_spec {S : St} {nv iv cv : AV} {g : PGame} {c : List Int} {pr W : Nat → Nat} {z j : Nat} (H : Has fns) (h : CtH g c pr W z) (hf : formE g = 0) (hn : IsSlG 6 NodeE S nv g.nodes) (hi : IsSlG 2 InfoE S iv g.infos) (hc : IsSl .i64 S cv c) (hz : sizeN g pr = (z : Int)) (hr : sizeR g pr = 0) (hj : j < g.nodes.length) :
    wpf fns (.fn 40 [] []) [.agg [.int .i64 g.players, nv, iv], cv, .int .i64 (j : Int)] S fun r X => Same S X ∧ r = .tup [.int .i64 ((wantN z pr W j : Nat) : Int), .int .i64 0] := by
  have hN2 := h.G.good.n2
  have hni := h.G.good.ni
  have hcl := h.C.len
  have e1 : chsN g c pr = (z : Int) := by unfold chsN; rw [if_neg (fun e => e hf), if_neg (fun e => e (h.C.e)), hz]
  have e2 : chsR g c pr = 0 := by unfold chsR; rw [if_neg (fun e => e hf), if_neg (fun e => e (h.C.e)), hr]
  refine wpf_fn H.f40 (by simp) ?_
  simp only [↓sU, sD, reduceEqDiff, ↓reduceIte, reduceAdd]
  refine wsr ?_
  refine wpo_box (cs := [.int .i64 g.players, nv, iv]) rfl ?_
  intro S1 s1 n1 g1
  simp only [↓sU, sD, reduceEqDiff, ↓reduceIte, reduceAdd]
  refine wsr ?_
  simp only [↓sU, sD, reduceEqDiff, ↓reduceIte, reduceAdd, lg3_a g1]
  refine wpo_call ?_
  simp only [↓sU, sD, reduceEqDiff, ↓reduceIte, reduceAdd]
  refine wpf_mono (chosen_spec (pr := pr) H (IsSlG.same (E := NodeE) firm_node hn s1) (IsSlG.same (E := InfoE) firm_info hi s1) (hc.same s1) (by omega) (by omega) fun _ => prods_one h.P) ?_
  rintro _ X ⟨hX, rfl⟩
  rw [e1, e2]
  have sX := s1.trans hX
  have gX := (hX.2 _ (show S.nx < S1.nx by omega)).trans g1
  have hnX := IsSlG.same (E := NodeE) firm_node hn sX
  simp only [↓sU, sD, reduceEqDiff, ↓reduceIte, reduceAdd, ex0, ex1]
  refine wss ?_
  simp only [↓sU, sD, reduceEqDiff, ↓reduceIte, reduceAdd]
  refine wpc_non (by simp only [↓sU, sD, reduceEqDiff, ↓reduceIte, reduceAdd, decide_eq_false (show ¬ (0 : Int) ≠ 0 by omega)]) (wpc_skip ?_)
  try simp only [↓sU, sD, reduceEqDiff, ↓reduceIte, reduceAdd]
  refine wss ?_
  simp only [↓sU, sD, reduceEqDiff, ↓reduceIte, reduceAdd, decide_eq_false (show ¬ (j : Int) < 0 by omega), evQ_faddr, faddr_ptr, lg3_1 gX, hnX.len, Int.ofNat_eq_natCast]
  refine wpc_non (by simp only [↓sU, sD, reduceEqDiff, ↓reduceIte, reduceAdd, decide_eq_false (show ¬ (j : Int) ≥ ((g.nodes.length : Nat) : Int) by omega)]) (wpc_skip ?_)
  try simp only [↓sU, sD, reduceEqDiff, ↓reduceIte, reduceAdd]
  refine wsr ?_
  simp only [↓sU, sD, reduceEqDiff, ↓reduceIte, reduceAdd, lg3_a gX]
  refine wpo_call ?_
  simp only [↓sU, sD, reduceEqDiff, ↓reduceIte, reduceAdd]
  refine wpf_mono (counts_spec H h hnX (hc.same sX)) ?_
  rintro r Y ⟨hY, l, il, hl, hg⟩
  have hia := il.iaddr (show j < l.length by omega)
  have hla := il.ld (show j < l.length by omega)
  rw [hg j hj] at hla
  simp only [↓sU, sD, reduceEqDiff, ↓reduceIte, reduceAdd, natOf_cast, hia, hla]
  refine wpc_ret ?_
  simp only [↓sU, sD, reduceEqDiff, ↓reduceIte, reduceAdd]
  exact sX.trans hY
end Go.Ev.Gl

namespace Go.Ev.Gl
variable {fns : T AFn}

/-! ## The table of all or nothing -/
noncomputable def purC : AC := (.block 0 (.loop (.seq (.seq (.reg [⟨(some 37),(.q (.mv (.t 11))),none,0⟩,
⟨(some 38),(.q (.faddr 2 (.t 8))),none,0⟩,
⟨(some 39),(.q (.ld false 1 (.t 38))),none,0⟩,
⟨(some 40),(.q (.lenSl (.t 39))),none,0⟩,
⟨(some 41),(.q (.bin .lss (.p .int) (.t 37) (.t 40))),none,0⟩])
(.cond (.t 41) .skip (.exit 0)))
(.seq (.block 1 (.seq (.reg [⟨(some 44),(.q (.faddr 2 (.t 8))),none,0⟩,
⟨(some 45),(.q (.ld false 1 (.t 44))),none,0⟩,
⟨(some 46),(.q (.mv (.t 11))),none,0⟩,
⟨(some 47),(.q (.iaddr (.slice 2) (.t 45) (.t 46))),none,0⟩,
⟨(some 48),(.q (.faddr 1 (.t 47))),none,0⟩,
⟨(some 49),(.q (.ld false 1 (.t 48))),none,0⟩,
⟨(some 50),(.a (.mkSlice 3 1 8 [(.int .i64 (.ofNat 0))] (.t 49) (.t 49))),none,0⟩,
⟨(some 12),(.q (.mv (.t 50))),none,0⟩])
(.seq (.reg [⟨(some 51),(.q (.mv (.t 12))),none,0⟩,
⟨(some 52),(.q (.mv (.t 9))),none,0⟩,
⟨(some 53),(.q (.mv (.t 11))),none,0⟩,
⟨(some 54),(.q (.iaddr (.slice 1) (.t 52) (.t 53))),none,0⟩,
⟨(some 55),(.q (.ld false 1 (.t 54))),none,0⟩,
⟨(some 56),(.q (.iaddr (.slice 1) (.t 51) (.t 55))),none,0⟩,
⟨none,(.x (.st 1 (.t 56) (.c (.int .i64 (.ofNat 2))))),none,0⟩])
(.reg [⟨(some 57),(.q (.faddr 1 (.t 10))),none,0⟩,
⟨(some 58),(.q (.ld false 1 (.t 57))),none,0⟩,
⟨(some 59),(.q (.mv (.t 12))),none,0⟩,
⟨(some 60),(.a (.bslice 22 1 1 [.nilsl] [(0,(.t 59))])),none,0⟩,
⟨(some 61),(.x (.app 22 1 24 (.t 58) (.t 60))),none,0⟩,
⟨(some 62),(.q (.faddr 1 (.t 10))),none,0⟩,
⟨none,(.x (.st 1 (.t 62) (.t 61))),none,0⟩]))))
(.reg [⟨(some 42),(.q (.mv (.t 11))),none,0⟩,
⟨(some 43),(.q (.bin .add (.p .int) (.t 42) (.c (.int .i64 (.ofNat 1))))),none,0⟩,
⟨(some 11),(.q (.mv (.t 43))),none,0⟩])))))
def PurI (S0 : St) (gb tb : Nat) (cv : AV) (c : List Int) (g : PGame) (k : Nat) (A : Act') (X : St) : Prop := A.inr = false ∧ S0.nx ≤ X.nx ∧ (∀ b, b < S0.nx → b ≠ tb → X.h.get b = S0.h.get b) ∧ ∃ (i : Nat) (pv : AV) (cs : List AV) (L : List (List Int)), i + k = g.infos.length ∧ L.length = i ∧ (∀ j, j < i → L.getD j [] = pureR g c 2 j) ∧ X.h.get tb = some (.cells [.int .i64 1, pv] false 0) ∧ GrW 1 S0 X pv i cs ∧ RowsB S0 X pv cs L ∧ tmpV 8 A.F = .ptr gb 0 ∧ tmpV 9 A.F = cv ∧ tmpV 10 A.F = .ptr tb 0 ∧ tmpV 11 A.F = .int .i64 (i : Int)
set_option maxHeartbeats 8000000 in
theorem pure_ok {S0 : St} {F : Fr} {gb tb : Nat} {nv iv cv : AV} {c : List Int} {g : PGame} (C : ChsOk g c) (gG : S0.h.get gb = some (.cells [.int .i64 g.players, nv, iv] false 0)) (gT : S0.h.get tb = some (.cells [.int .i64 1, .nilsl] false 0)) (lg : gb < S0.nx) (lt : tb < S0.nx) (h3 : gb ≠ tb)
    (hinf : ∀ X' : St, S0.nx ≤ X'.nx → (∀ c, c < S0.nx → c ≠ tb → X'.h.get c = S0.h.get c) → IsSlG 2 InfoE X' iv g.infos ∧ IsSl .i64 X' cv c) (hact : ∀ i, i < g.infos.length → 1 ≤ (infoAt g (i : Int)).actions ∧ (infoAt g (i : Int)).actions ≤ 3) (hil : g.infos.length ≤ 200)
    (p8 : tmpV 8 F = .ptr gb 0) (p9 : tmpV 9 F = cv) (p10 : tmpV 10 F = .ptr tb 0) (p11 : tmpV 11 F = .int .i64 0) : wpc fns purC ⟨F, false⟩ S0 fun o A X => o = .normal ∧ PurI S0 gb tb cv c g 0 A X := by
  unfold purC
  refine wpc_block (wpc_loop (PurI S0 gb tb cv c g) ?_ g.infos.length _ _ ⟨rfl, Nat.le_refl _, fun _ _ _ => rfl, 0, .nilsl, [], [], by omega, rfl, fun j hj => absurd hj (Nat.not_lt_zero j), gT, .inl ⟨rfl, rfl, rfl⟩, ⟨rfl, fun j hj => absurd hj (Nat.not_lt_zero j)⟩, p8, p9, p10, p11⟩)
  rintro k ⟨F, inr⟩ X ⟨q0, nX, kX, i, pv, cs, L, hik, hLl, hL, gX, hg, hR, p8, p9, p10, p11⟩
  simp only at q0 p8 p9 p10 p11
  subst q0
  have cX := (kX gb lg h3).trans gG
  obtain ⟨iX, hcX⟩ := hinf X nX kX
  have ivl := IsSlG.len iX
  refine wss ?_
  simp only [↓sU, sD, reduceEqDiff, ↓reduceIte, reduceAdd, p8, p11, evQ_faddr, faddr_ptr, lg3_2 cX, ivl, Int.ofNat_eq_natCast]
  by_cases hlt : i < g.infos.length
  rotate_left
  · refine wpc_non (by simp only [↓sU, sD, reduceEqDiff, ↓reduceIte, reduceAdd, decide_eq_false (show ¬ (i : Int) < ((g.infos.length : Nat) : Int) by omega)]) (wpc_exit ?_)
    simp only [↓sU, sD, reduceEqDiff, ↓reduceIte, reduceAdd]
    obtain rfl : k = 0 := by omega
    exact ⟨rfl, nX, kX, i, pv, cs, L, hik, hLl, hL, gX, hg, hR, by simp only [↓sU, sD, reduceEqDiff, ↓reduceIte, reduceAdd, p8], by simp only [↓sU, sD, reduceEqDiff, ↓reduceIte, reduceAdd, p9], by simp only [↓sU, sD, reduceEqDiff, ↓reduceIte, reduceAdd, p10], by simp only [↓sU, sD, reduceEqDiff, ↓reduceIte, reduceAdd, p11]⟩
  refine wpc_yes (by simp only [↓sU, sD, reduceEqDiff, ↓reduceIte, reduceAdd, decide_eq_true (show (i : Int) < ((g.infos.length : Nat) : Int) by omega)]) (wpc_skip ?_)
  try simp only [↓sU, sD, reduceEqDiff, ↓reduceIte, reduceAdd]
  have w1 : IntKind.i64.wrap ((i : Int) + 1) = ((i + 1 : Nat) : Int) := by rw [wrap_i64 (by omega) (by omega)]; omega
  obtain ⟨a1, a2⟩ := hact i hlt
  obtain ⟨n, hn⟩ : ∃ n : Nat, (infoAt g (i : Int)).actions = (n : Int) := ⟨(infoAt g (i : Int)).actions.toNat, by omega⟩
  obtain ⟨c1, c2⟩ := C.ok i hlt
  obtain ⟨u, hu⟩ : ∃ u : Nat, c.getD i 0 = (u : Int) := ⟨(c.getD i 0).toNat, by omega⟩
  have huN : u < n := by omega
  have hcl := C.len
  obtain ⟨ei, bi, qi, hii, hbi, _, hei, _, hfi⟩ := IsSlG.at iX (by decide) (infoAt_some hlt)
  have hf1 := hfi 1 (.int .i64 (n : Int)) (by rw [hei, hn]; rfl)
  refine wpc_seq (wpc_block (wpc_seq (wpc_reg ?_)))
  simp only [↓stU, stD, reduceEqDiff, ↓reduceIte, reduceAdd, p8, p11, evQ_faddr, faddr_ptr, lg3_2 cX, natOf_cast, hii, hf1]
  refine wpo_al (evA_mk (n := n) (by simp only [↓stU, stD, reduceEqDiff, ↓reduceIte, reduceAdd, natOf_cast]) (by simp only [↓stU, stD, reduceEqDiff, ↓reduceIte, reduceAdd, natOf_cast]) (by unfold room; omega) (by unfold room; omega)) ?_
  intro X1 x1 n1 g1
  rw [zeros64] at g1
  try simp only [↓stU, stD, reduceEqDiff, ↓reduceIte, reduceAdd]
  have hcX1 := hcX.same x1
  have hci := hcX1.iaddr (show i < c.length by omega)
  have hcd := hcX1.ld (show i < c.length by omega)
  rw [hu] at hcd
  have hi2 := row_ia (b := X.nx) (o := false) huN
  refine wsr ?_
  simp only [↓sU, sD, reduceEqDiff, ↓reduceIte, reduceAdd, p9, p11, natOf_cast, hci, hcd, hi2]
  refine wpo_x (v := .undef) (S1 := ⟨X1.h.set X.nx (some (.cells (cells64 ((List.replicate n 0).set u 2)) false 0)), X1.nx⟩) (fun call => by simp only [↓sU, sD, reduceEqDiff, ↓reduceIte, reduceAdd, evX_st, cells_int]; exact st64 (S := X1) g1 (by rw [List.length_replicate]; exact huN)) ?_
  simp only [↓sU, sD, reduceEqDiff, ↓reduceIte, reduceAdd]
  have erow : (List.replicate n (0 : Int)).set u 2 = pureR g c 2 i := by unfold pureR; rw [hn, hu, Int.toNat_natCast, Int.toNat_natCast]; rfl
  rw [erow]
  obtain ⟨Y, hY⟩ : ∃ Z : St, Z = ⟨X1.h.set X.nx (some (.cells (cells64 (pureR g c 2 i)) false 0)), X1.nx⟩ := ⟨_, rfl⟩
  have nY : Y.nx = X1.nx := by rw [hY]
  have gY : Y.h.get X.nx = some (.cells (cells64 (pureR g c 2 i)) false 0) := by rw [hY]; simp only; rw [T.get_set, if_pos rfl]
  have kY : ∀ b, b < X.nx → Y.h.get b = X.h.get b := fun b hb => by rw [hY]; simp only; rw [T.get_set, if_neg (by omega)]; exact x1.2 b hb
  rw [← hY]
  clear hY g1 x1
  have tY := (kY tb (by omega)).trans gX
  have hlen : (pureR g c 2 i).length = n := by rw [(pureR_ok C hlt).len, hn, Int.toNat_natCast]
  have hrow : IsSl .i64 Y (.sl X.nx 0 n n false) (pureR g c 2 i) := by
    refine .inr ⟨X.nx, 0, n, false, cells64 (pureR g c 2 i), by rw [hlen], by omega, by omega, by unfold cellsAt; rw [gY]; rfl, fun j x hj => ?_⟩
    rw [Nat.zero_add]
    unfold cells64
    rw [List.getElem?_map, hj]
    rfl
  have hbl := fun (F : Fr) (id : Nat) (h : tmpV 59 F = .sl X.nx 0 n n false) => evA_row (t := 22) (z := .nilsl) (x := .t 59) (F := F) (id := id) hrow h
  refine wpc_reg ?_
  simp only [↓stU, stD, reduceEqDiff, ↓reduceIte, reduceAdd, p10, evQ_faddr, faddr_ptr, lg2_1 tY]
  refine wpo_al (hbl _ _ (by simp only [↓stU, stD, reduceEqDiff, ↓reduceIte, reduceAdd])) ?_
  intro Y1 y1 m1 d1
  try simp only [↓stU, stD, reduceEqDiff, ↓reduceIte, reduceAdd]
  have hgY1 : GrW 1 ⟨Y1.h, S0.nx⟩ Y1 pv i cs := (hg.move (S' := Y) (by omega) fun b hb => kY b (hg.blk hb).2.1).step y1
  obtain ⟨pv', Z, eA, gA, bA, nA, rA⟩ := GrW.push1 (bytes := 24) (x := .sl X.nx 0 n n false) hgY1 ⟨by have := y1.1; show S0.nx ≤ Y1.nx; omega, fun _ _ => rfl⟩ d1 (by unfold room; omega) (by unfold room; omega)
  have hpb : ∀ {b}, blkOf pv = some b → S0.nx ≤ b := fun hb => (hg.blk hb).1
  have lY1 := y1.1
  have tZ : Z.h.get tb = some (.cells [.int .i64 1, pv] false 0) := by
    rw [rA tb (by omega) (fun e => by have := hpb e; omega)]
    exact (y1.2 tb (by omega)).trans tY
  refine wpo_x (v := pv') (S1 := Z) (fun call => by simp only [↓stU, stD, reduceEqDiff, ↓reduceIte, reduceAdd, evX_app]; exact eA) ?_
  simp only [↓stU, stD, reduceEqDiff, ↓reduceIte, reduceAdd, p10, evQ_faddr, faddr_ptr]
  have gAc : pv'.cells = some [pv'] := GrW.cells gA
  refine wpo_x (v := .undef) (S1 := ⟨Z.h.set tb (some (.cells [.int .i64 1, pv'] false 0)), Z.nx⟩) (fun call => by
    simp only [↓stU, stD, reduceEqDiff, ↓reduceIte, reduceAdd, evX_st, gAc]
    exact stc (cs := [.int .i64 1, pv]) (p := 1) (S := Z) tZ (by simp)) ?_
  simp only [↓sU, sD, reduceEqDiff, ↓reduceIte, reduceAdd]
  refine wpc_reg ?_
  simp only [↓sU, sD, reduceEqDiff, ↓reduceIte, reduceAdd, p11, w1]
  have hbA : ∀ {b}, blkOf pv' = some b → b = Y1.nx := fun hb => by rw [bA] at hb; exact (Option.some.inj hb).symm
  have kW : ∀ b, b ≠ tb → (Z.h.set tb (some (.cells [.int .i64 1, pv'] false 0))).get b = Z.h.get b := fun b hb => by rw [T.get_set, if_neg hb]
  have kZX : ∀ b, b < X.nx → b ≠ tb → blkOf pv ≠ some b → (Z.h.set tb (some (.cells [.int .i64 1, pv'] false 0))).get b = X.h.get b := fun b a d e => by
    rw [kW b d, rA b (by omega) e, y1.2 b (by omega), kY b a]
  have hRZ := hR.push (Z := ⟨Z.h.set tb (some (.cells [.int .i64 1, pv'] false 0)), Z.nx⟩) (pv' := pv') (r := .sl X.nx 0 n n false) (l := pureR g c 2 i) nX (by show X.nx ≤ Z.nx; omega) (fun b a d e => kZX b a (by omega) e) (sl_move hrow (by show Y.nx ≤ Z.nx; omega) fun b hb => by
    cases hb
    rw [kW _ (by omega), rA _ (by omega) (fun e => by have := (hg.blk e).2.1; omega), y1.2 _ (by omega)]) (fun b hb => by cases hb; exact ⟨Nat.le_refl _, fun e => by have := hbA e; omega⟩) (fun b hb => by have := hbA hb; omega)
  refine ⟨k - 1, by omega, rfl, by show S0.nx ≤ Z.nx; omega, fun b a d => (kZX b (by omega) d (fun e => by have := hpb e; omega)).trans (kX b a d), i + 1, pv', _, L ++ [pureR g c 2 i], by omega, by rw [List.length_append, hLl]; rfl, fun j hj => ?_, by simp only; rw [T.get_set, if_pos rfl], ?_, hRZ, by simp only [↓sU, sD, reduceEqDiff, ↓reduceIte, reduceAdd, p8], by simp only [↓sU, sD, reduceEqDiff, ↓reduceIte, reduceAdd, p9], by simp only [↓sU, sD, reduceEqDiff, ↓reduceIte, reduceAdd, p10], by simp only [↓sU, sD, reduceEqDiff, ↓reduceIte, reduceAdd]⟩
  · rw [getD_appL, hLl]
    by_cases e : j = i
    · subst e
      rw [if_pos rfl]
    · rw [if_neg e]
      exact hL j (by omega)
  · refine GrW.move (S := Z) gA (Nat.le_refl _) fun b hb => ?_
    have := hbA hb
    exact kW b (by omega)
end Go.Ev.Gl

namespace Go.Ev.Gl
variable {fns : T AFn}

/-! ## Ends of plays -/
def lastL (l : List Int) : Int := l.getD (l.length - 1) 0
theorem lastL_cons {x : Int} {l : List Int} (h : 1 ≤ l.length) : lastL (x :: l) = lastL l := by
  unfold lastL
  obtain ⟨n, hn⟩ : ∃ n, l.length = n + 1 := ⟨l.length - 1, by omega⟩
  rw [List.length_cons, hn]
  rfl
theorem end_cnt {g : PGame} {D : Dec} (G : GoodK g) (hlt : ∀ i, i < g.nodes.length → (nodeAt g i).kind ≠ 3 → ∀ d, d < (decAt D (nodeAt g i)).rad (nodeAt g i) → (decAt D (nodeAt g i)).chs (nodeAt g i) d < (nodeAt g i).next.length) (hrad : ∀ i, i < g.nodes.length → (nodeAt g i).kind ≠ 3 → 0 < (decAt D (nodeAt g i)).rad (nodeAt g i)) {j : Nat} (hj : (nodeAt g j).kind = 3) : ∀ {f i s : Nat}, i < g.nodes.length → g.nodes.length ≤ f + i → 1 ≤ (pathL g D f i s).length ∧ cntL j (pathL g D f i s) = if lastL (pathL g D f i s) = (j : Int) then 1 else 0
  | 0, i, s, hi, hf => by omega
  | f + 1, i, s, hi, hf => by
    by_cases h3 : (nodeAt g i).kind = 3
    · have e : pathL g D (f + 1) i s = [(i : Int)] := by simp only [pathL]; rw [if_pos h3]
      rw [e]
      exact ⟨Nat.le_refl _, rfl⟩
    · have e : pathL g D (f + 1) i s = (i : Int) :: pathL g D f ((nodeAt g i).next.getD ((decAt D (nodeAt g i)).chs (nodeAt g i) (s % (decAt D (nodeAt g i)).rad (nodeAt g i))) 0).toNat (s / (decAt D (nodeAt g i)).rad (nodeAt g i)) := by simp only [pathL]; rw [if_neg h3]
      rw [e]
      obtain ⟨b1, b2⟩ := G.good.kids i hi _ (hlt i hi h3 _ (Nat.mod_lt s (hrad i hi h3)))
      obtain ⟨c1, c2⟩ := end_cnt G hlt hrad hj (f := f) (i := ((nodeAt g i).next.getD ((decAt D (nodeAt g i)).chs (nodeAt g i) (s % (decAt D (nodeAt g i)).rad (nodeAt g i))) 0).toNat) (s := s / (decAt D (nodeAt g i)).rad (nodeAt g i)) (by omega) (by omega)
      rw [lastL_cons c1, ← c2]
      refine ⟨by rw [List.length_cons]; omega, ?_⟩
      show (if (i : Int) = (j : Int) then 1 else 0) + _ = _
      rw [if_neg (fun e => h3 (by rw [show i = j by omega]; exact hj)), Nat.zero_add]
/-- how many of the first seeds end at a node -/
def lstN (g : PGame) (b : Int) (L : List (List Int)) (j s : Nat) : Nat := sumN s fun u => if lastL (tabL g b L ((u : Nat) : Int)) = (j : Int) then 1 else 0
theorem lstN_le {g : PGame} {b : Int} {L : List (List Int)} {j : Nat} : ∀ {s : Nat}, lstN g b L j s ≤ s
  | 0 => Nat.le_refl _
  | s + 1 => by
    have := lstN_le (g := g) (b := b) (L := L) (j := j) (s := s)
    show lstN g b L j s + (if _ then 1 else 0) ≤ s + 1
    split <;> omega
theorem lst_fnd {g : PGame} {b : Int} {L : List (List Int)} {j s : Nat} (G : GoodK g) (T : GoodT g b L) (hj : (nodeAt g j).kind = 3) : lstN g b L j s = fndN g b L j s := by
  unfold lstN fndN
  refine sumN_congr fun u _ => ?_
  unfold tabL
  rw [Int.toNat_natCast]
  refine (end_cnt G (fun i hi h3 d hd => ?_) (fun i hi h3 => ?_) hj G.good.n1 (by omega)).2.symm
  · obtain ⟨f1, f2, _, _, _, _, f7⟩ := dec_facts (v := .nilsl) G T hi h3
    rw [f2]
    exact f7 d (by rwa [f1] at hd)
  · obtain ⟨f1, _, _, f4, _⟩ := dec_facts (v := .nilsl) G T hi h3
    rwa [f1]
/-- all that is known of the two counts -/
theorem pt_of {g : PGame} {c : List Int} {L : List (List Int)} (hf : formE g = 0) (hN : ∀ x ∈ g.nodes, NodeOk g.players g.infos x) (hn : g.nodes.length ≤ 15) (C : ChsOk g c) (hL : ∀ i, i < g.infos.length → L.getD i [] = pureR g c 2 i) (hfit : fitE g 1 L = 0) : ∃ (p1 p2 W1 : Nat → Nat) (z1 z2 : Nat), CtH g c p1 W1 z1 ∧ sizeN g p1 = (z1 : Int) ∧ sizeR g p1 = 0 ∧ ProdM (radM 1) g p2 ∧ sprE g 1 L p2 = 0 ∧ sprN g 1 L p2 = (z2 : Int) ∧ 0 < z2 ∧ z2 ≤ 1000000000000000 ∧ z1 ∣ z2 ∧ ∀ j, j < g.nodes.length → (nodeAt g j).kind = 3 → wantN z1 p1 W1 j * (z2 / z1) = lstN g 1 L j z2 := by
  have G := goodK_of hf
  have T := (goodT_of hfit).2
  obtain ⟨p1, P1⟩ := exists_prodM 1 G.good
  obtain ⟨p2, P2⟩ := exists_prodM (radM 1) G.good
  obtain ⟨W1, M1⟩ := exists_mass (pureT g c 1) G.good
  obtain ⟨W2, M2⟩ := exists_mass L G.good
  have hm := fun i (hi : i < g.nodes.length) (hk : (nodeAt g i).kind = 1) => nodeOk_sum (hN (nodeAt g i) (List.mem_of_getElem? (nodeAt_some hi))) hk
  obtain ⟨z1, a1, a2, a3, a4⟩ := small_spread G (M := 1) (by decide) P1 hn hm
  obtain ⟨z2, b1, b2, b3, b4⟩ := small_spread G (M := radM 1) (by decide) P2 hn hm
  have hrel := fun j (hj : j < g.nodes.length) => pure_rel G C hL P1 P2 M1 M2 hj
  have hdv : z1 ∣ z2 := spF_dv a1 fun j hj _ => by
    obtain ⟨e, h1, h2, _⟩ := hrel j hj
    exact Nat.dvd_trans ⟨e, h2⟩ (b4 j hj).1
  refine ⟨p1, p2, W1, z1, z2, ⟨G, C, P1, M1, a4, a2, a3⟩, ?_, ?_, P2, ?_, ?_, b2, b3, hdv, fun j hj hk => ?_⟩
  · unfold sizeN; rw [szF_of a1]
  · unfold sizeR; rw [szF_of a1]
  · unfold sprE spR; rw [if_pos hfit, b1]
  · unfold sprN spN; rw [if_pos hfit, b1]
  · obtain ⟨e, h1, h2, h3⟩ := hrel j hj
    rw [lst_fnd G T hk, fnd_all G T P2 M2 (fun j hj => (b4 j hj).1) hj]
    exact pure_eq h1 (P1.pos (by decide) G hj) a2 h2 h3 (a4 j hj).1 hdv (b4 j hj).1
noncomputable def lstC : AC := (.block 2 (.loop (.seq (.seq (.reg [⟨(some 97),(.q (.mv (.t 18))),none,0⟩,
⟨(some 98),(.q (.mv (.t 15))),none,0⟩,
⟨(some 99),(.q (.bin .lss (.p .int) (.t 97) (.t 98))),none,0⟩])
(.cond (.t 99) .skip (.exit 2)))
(.seq (.block 3 (.seq (.reg [⟨(some 103),(.q (.ld true 3 (.t 8))),none,0⟩,
⟨(some 104),(.q (.ld true 2 (.t 10))),none,0⟩,
⟨(some 105),(.q (.mv (.t 18))),none,0⟩,
⟨(some 106),(.x (.call (.c (.fn 35 [] [])) [(.t 103),(.t 104),(.t 105)])),none,0⟩,
⟨(some 102),(.q (.mv (.t 106))),none,0⟩,
⟨(some 107),(.q (.extract (.t 102) 0)),none,0⟩,
⟨(some 108),(.q (.extract (.t 102) 1)),none,0⟩,
⟨(some 19),(.q (.mv (.t 107))),none,0⟩,
⟨(some 20),(.q (.mv (.t 108))),none,0⟩])
(.seq (.seq (.reg [⟨(some 109),(.q (.mv (.t 20))),none,0⟩,
⟨(some 110),(.q (.bin .neq (.p .int) (.t 109) (.c (.int .i64 (.ofNat 0))))),none,0⟩,
⟨(some 111),(.q (.mv (.t 110))),none,0⟩,
⟨(some 112),(.q (.mv (.t 19))),(some (111,false)),0⟩,
⟨(some 113),(.q (.lenSl (.t 112))),(some (111,false)),0⟩,
⟨(some 114),(.q (.bin .eql (.p .int) (.t 113) (.c (.int .i64 (.ofNat 0))))),(some (111,false)),0⟩,
⟨(some 115),(.q (.pick (.t 111) (.c (.bool true)) (.t 114))),none,0⟩])
(.cond (.t 115) (.seq (.reg [⟨(some 6),(.q (.mv (.c (.bool false)))),none,0⟩])
.ret) .skip))
(.seq (.reg [⟨(some 116),(.q (.mv (.t 19))),none,0⟩,
⟨(some 117),(.q (.mv (.t 19))),none,0⟩,
⟨(some 118),(.q (.lenSl (.t 117))),none,0⟩,
⟨(some 119),(.q (.bin .sub (.p .int) (.t 118) (.c (.int .i64 (.ofNat 1))))),none,0⟩,
⟨(some 120),(.q (.iaddr (.slice 1) (.t 116) (.t 119))),none,0⟩,
⟨(some 121),(.q (.ld false 1 (.t 120))),none,0⟩,
⟨(some 21),(.q (.mv (.t 121))),none,0⟩])
(.seq (.seq (.reg [⟨(some 122),(.q (.mv (.t 21))),none,0⟩,
⟨(some 123),(.q (.bin .lss (.p .int) (.t 122) (.c (.int .i64 (.ofNat 0))))),none,0⟩,
⟨(some 124),(.q (.mv (.t 123))),none,0⟩,
⟨(some 125),(.q (.mv (.t 21))),(some (124,false)),0⟩,
⟨(some 126),(.q (.mv (.t 17))),(some (124,false)),0⟩,
⟨(some 127),(.q (.lenSl (.t 126))),(some (124,false)),0⟩,
⟨(some 128),(.q (.bin .geq (.p .int) (.t 125) (.t 127))),(some (124,false)),0⟩,
⟨(some 129),(.q (.pick (.t 124) (.c (.bool true)) (.t 128))),none,0⟩])
(.cond (.t 129) (.seq (.reg [⟨(some 6),(.q (.mv (.c (.bool false)))),none,0⟩])
.ret) .skip))
(.reg [⟨(some 130),(.q (.mv (.t 17))),none,0⟩,
⟨(some 131),(.q (.mv (.t 21))),none,0⟩,
⟨(some 132),(.q (.iaddr (.slice 1) (.t 130) (.t 131))),none,0⟩,
⟨(some 133),(.q (.ld false 1 (.t 132))),none,0⟩,
⟨(some 134),(.q (.bin .add (.p .int) (.t 133) (.c (.int .i64 (.ofNat 1))))),none,0⟩,
⟨(some 135),(.q (.iaddr (.slice 1) (.t 130) (.t 131))),none,0⟩,
⟨none,(.x (.st 1 (.t 135) (.t 134))),none,0⟩]))))))
(.reg [⟨(some 100),(.q (.mv (.t 18))),none,0⟩,
⟨(some 101),(.q (.bin .add (.p .int) (.t 100) (.c (.int .i64 (.ofNat 1))))),none,0⟩,
⟨(some 18),(.q (.mv (.t 101))),none,0⟩])))))
def LsI (X0 : St) (gb tb fb z1 z : Nat) (cv : AV) (g : PGame) (b : Int) (L : List (List Int)) (k : Nat) (A : Act') (X : St) : Prop := A.inr = false ∧ Same X0 X ∧ fb < X.nx ∧ ∃ (s : Nat) (fl : List Int), s + k = z ∧ fl.length = g.nodes.length ∧ (∀ j, j < g.nodes.length → fl.getD j 0 = ((lstN g b L j s : Nat) : Int)) ∧ X.h.get fb = some (.cells (cells64 fl) false 0) ∧ tmpV 8 A.F = .ptr gb 0 ∧ tmpV 9 A.F = cv ∧ tmpV 10 A.F = .ptr tb 0 ∧ tmpV 13 A.F = .int .i64 (z1 : Int) ∧ tmpV 15 A.F = .int .i64 (z : Int) ∧ tmpV 17 A.F = .sl fb 0 g.nodes.length g.nodes.length false ∧ tmpV 18 A.F = .int .i64 (s : Int)
set_option maxHeartbeats 8000000 in
theorem lst_ok {X0 X : St} {F : Fr} {gb tb fb z1 z : Nat} {cv nv iv sv : AV} {g : PGame} {b : Int} {L : List (List Int)} {pr : Nat → Nat} {l0 : List Int} (H : Has fns) (G : GoodK g) (Tg : GoodT g b L) (hN : g.nodes.length ≤ 15) (hz : z ≤ 3000) (hE : sprE g b L pr = 0) (hZ : sprN g b L pr = (z : Int)) (hpr : ProdM (radM b) g pr) (hn : IsSlG 6 NodeE X0 nv g.nodes) (hi : IsSlG 2 InfoE X0 iv g.infos) (hv : IsSlG 1 SlE X0 sv L) (gG : X0.h.get gb = some (.cells [.int .i64 g.players, nv, iv] false 0)) (gT : X0.h.get tb = some (.cells [.int .i64 b, sv] false 0)) (lg : gb < X0.nx) (lt : tb < X0.nx) (hs : Same X0 X) (lf : X0.nx ≤ fb) (lfX : fb < X.nx) (h0 : l0.length = g.nodes.length) (hl0 : ∀ j, j < g.nodes.length → l0.getD j 0 = 0) (g0 : X.h.get fb = some (.cells (cells64 l0) false 0))
    (p8 : tmpV 8 F = .ptr gb 0) (p9 : tmpV 9 F = cv) (p10 : tmpV 10 F = .ptr tb 0) (p13 : tmpV 13 F = .int .i64 (z1 : Int)) (p15 : tmpV 15 F = .int .i64 (z : Int)) (p17 : tmpV 17 F = .sl fb 0 g.nodes.length g.nodes.length false) (p18 : tmpV 18 F = .int .i64 0) :
    wpc fns lstC ⟨F, false⟩ X fun o A Y => o = .normal ∧ LsI X0 gb tb fb z1 z cv g b L 0 A Y := by
  have hLl := Tg.len
  have hil := G.good.ni
  unfold lstC
  refine wpc_block (wpc_loop (LsI X0 gb tb fb z1 z cv g b L) ?_ z _ _ ⟨rfl, hs, lfX, 0, l0, by omega, h0, fun j hj => by rw [hl0 j hj]; rfl, g0, p8, p9, p10, p13, p15, p17, p18⟩)
  clear hs lfX g0 p8 p9 p10 p13 p15 p17 p18 hl0 h0 l0
  rintro k ⟨F, inr⟩ V ⟨q0, hs, lfV, s, fl, hsk, hfl, hf, gf, p8, p9, p10, p13, p15, p17, p18⟩
  simp only at q0 p8 p9 p10 p13 p15 p17 p18
  subst q0
  have nV := hs.1
  refine wss ?_
  simp only [↓sU, sD, reduceEqDiff, ↓reduceIte, reduceAdd, p15, p18]
  by_cases hlt : s < z
  rotate_left
  · refine wpc_non (by simp only [↓sU, sD, reduceEqDiff, ↓reduceIte, reduceAdd, decide_eq_false (show ¬ (s : Int) < (z : Int) by omega)]) (wpc_exit ?_)
    simp only [↓sU, sD, reduceEqDiff, ↓reduceIte, reduceAdd]
    obtain rfl : k = 0 := by omega
    exact ⟨rfl, hs, lfV, s, fl, hsk, hfl, hf, gf, by simp only [↓sU, sD, reduceEqDiff, ↓reduceIte, reduceAdd, p8], by simp only [↓sU, sD, reduceEqDiff, ↓reduceIte, reduceAdd, p9], by simp only [↓sU, sD, reduceEqDiff, ↓reduceIte, reduceAdd, p10], by simp only [↓sU, sD, reduceEqDiff, ↓reduceIte, reduceAdd, p13], by simp only [↓sU, sD, reduceEqDiff, ↓reduceIte, reduceAdd, p15], by simp only [↓sU, sD, reduceEqDiff, ↓reduceIte, reduceAdd, p17], by simp only [↓sU, sD, reduceEqDiff, ↓reduceIte, reduceAdd, p18]⟩
  refine wpc_yes (by simp only [↓sU, sD, reduceEqDiff, ↓reduceIte, reduceAdd, decide_eq_true (show (s : Int) < (z : Int) by omega)]) (wpc_skip ?_)
  try simp only [↓sU, sD, reduceEqDiff, ↓reduceIte, reduceAdd]
  have w0 : IntKind.i64.wrap ((s : Int) + 1) = ((s + 1 : Nat) : Int) := by rw [wrap_i64 (by omega) (by omega)]; omega
  have cV := (hs.2 gb lg).trans gG
  have tV := (hs.2 tb lt).trans gT
  have hvV := IsSlG.same (E := SlE) firm_sl hv hs
  have hE0 : walkE g b L pr (s : Int) = 0 := by unfold walkE; rw [if_neg (fun h => h hE), if_neg (by omega)]
  refine wpc_seq (wpc_block (wpc_seq (wpc_reg ?_)))
  simp only [↓sU, sD, reduceEqDiff, ↓reduceIte, reduceAdd, p8, p10, p18, lg3_a cV, lg2_a tV]
  refine wpo_call ?_
  simp only [↓sU, sD, reduceEqDiff, ↓reduceIte, reduceAdd]
  refine wpf_mono (walkP_fresh (pr := pr) H (IsSlG.same (E := NodeE) firm_node hn hs) (IsSlG.same (E := InfoE) firm_info hi hs) hvV (by omega) (by omega) (by omega) fun _ => hpr) ?_
  rintro r Y ⟨⟨hY, v, rfl, _, hpv⟩, _⟩
  have hpv := hpv hE0
  obtain ⟨t1, t2, t3⟩ := tab_all H hvV G Tg s
  have gfY := (hY.2 _ lfV).trans gf
  have nY := hY.1
  obtain ⟨n, hnl⟩ : ∃ n : Nat, (tabL g b L (s : Int)).length = n + 1 := ⟨(tabL g b L (s : Int)).length - 1, by omega⟩
  have wl : IntKind.i64.wrap ((((tabL g b L (s : Int)).length : Nat) : Int) - 1) = (n : Int) := by rw [wrap_i64 (by omega) (by omega)]; omega
  have hll : lastL (tabL g b L (s : Int)) = (tabL g b L (s : Int)).getD n 0 := by unfold lastL; rw [hnl]; rfl
  obtain ⟨a1, a2⟩ := t3 n (by omega)
  rw [← hll] at a1 a2
  obtain ⟨u, hu⟩ : ∃ u : Nat, lastL (tabL g b L (s : Int)) = (u : Int) := ⟨(lastL (tabL g b L (s : Int))).toNat, by omega⟩
  have hia := hpv.iaddr (show n < (tabL g b L (s : Int)).length by omega)
  have hla := hpv.ld (show n < (tabL g b L (s : Int)).length by omega)
  rw [← hll, hu] at hla
  have huN : u < g.nodes.length := by omega
  simp only [↓sU, sD, reduceEqDiff, ↓reduceIte, reduceAdd, ex0, ex1, hE0]
  refine wss ?_
  simp only [↓sU, sD, reduceEqDiff, ↓reduceIte, reduceAdd, hpv.len, Int.ofNat_eq_natCast, decide_eq_false (show ¬ (0 : Int) ≠ 0 by omega)]
  refine wpc_non (by simp only [↓sU, sD, reduceEqDiff, ↓reduceIte, reduceAdd, decide_eq_false (show ¬ (((tabL g b L (s : Int)).length : Nat) : Int) = 0 by omega)]) (wpc_skip ?_)
  try simp only [↓sU, sD, reduceEqDiff, ↓reduceIte, reduceAdd]
  refine wsr ?_
  simp only [↓sU, sD, reduceEqDiff, ↓reduceIte, reduceAdd, hpv.len, Int.ofNat_eq_natCast, wl, natOf_cast, hia, hla]
  have e0 : lenSlV (.sl fb 0 g.nodes.length g.nodes.length false) = some (.int .i64 ((g.nodes.length : Nat) : Int)) := rfl
  refine wss ?_
  simp only [↓sU, sD, reduceEqDiff, ↓reduceIte, reduceAdd, p17, e0, decide_eq_false (show ¬ (u : Int) < 0 by omega)]
  refine wpc_non (by simp only [↓sU, sD, reduceEqDiff, ↓reduceIte, reduceAdd, decide_eq_false (show ¬ (u : Int) ≥ ((g.nodes.length : Nat) : Int) by omega)]) (wpc_skip ?_)
  try simp only [↓sU, sD, reduceEqDiff, ↓reduceIte, reduceAdd]
  have hi2 := row_ia (b := fb) (o := false) huN
  have hl2 := ld64 gfY (p := u) (by omega)
  have hfu := hf u huN
  have hle := lstN_le (g := g) (b := b) (L := L) (j := u) (s := s)
  have w1 : IntKind.i64.wrap (fl.getD u 0 + 1) = fl.getD u 0 + 1 := wrap_i64 (by omega) (by omega)
  refine wpc_reg ?_
  simp only [↓sU, sD, reduceEqDiff, ↓reduceIte, reduceAdd, p17, natOf_cast, hi2, hl2, w1]
  refine wpo_x (v := .undef) (S1 := ⟨Y.h.set fb (some (.cells (cells64 (fl.set u (fl.getD u 0 + 1))) false 0)), Y.nx⟩) (fun call => by simp only [↓sU, sD, reduceEqDiff, ↓reduceIte, reduceAdd, evX_st, cells_int]; exact st64 gfY (by omega)) ?_
  simp only [↓sU, sD, reduceEqDiff, ↓reduceIte, reduceAdd]
  refine wpc_reg ?_
  simp only [↓sU, sD, reduceEqDiff, ↓reduceIte, reduceAdd, p18, w0]
  refine ⟨k - 1, by omega, rfl, ⟨by show X0.nx ≤ Y.nx; omega, fun c hc => by simp only; rw [T.get_set, if_neg (by omega), hY.2 c (by omega)]; exact hs.2 c hc⟩, by show fb < Y.nx; omega, s + 1, fl.set u (fl.getD u 0 + 1), by omega, by rw [List.length_set]; exact hfl, fun j hj => ?_, by simp only; rw [T.get_set, if_pos rfl], by simp only [↓sU, sD, reduceEqDiff, ↓reduceIte, reduceAdd, p8], by simp only [↓sU, sD, reduceEqDiff, ↓reduceIte, reduceAdd, p9], by simp only [↓sU, sD, reduceEqDiff, ↓reduceIte, reduceAdd, p10], by simp only [↓sU, sD, reduceEqDiff, ↓reduceIte, reduceAdd, p13], by simp only [↓sU, sD, reduceEqDiff, ↓reduceIte, reduceAdd, p15], by simp only [↓sU, sD, reduceEqDiff, ↓reduceIte, reduceAdd, p17], by simp only [↓sU, sD, reduceEqDiff, ↓reduceIte, reduceAdd]⟩
  rw [getD_set (by omega)]
  show _ = ((lstN g b L j s + (if lastL (tabL g b L (s : Int)) = (j : Int) then 1 else 0) : Nat) : Int)
  rw [hu]
  by_cases e : j = u
  · subst e
    rw [if_pos rfl, if_pos rfl, hfu]
    omega
  · rw [if_neg e, if_neg (by omega), hf j hj]
    omega
noncomputable def chkC : AC := (.block 4 (.loop (.seq (.seq (.reg [⟨(some 136),(.q (.mv (.t 22))),none,0⟩,
⟨(some 137),(.q (.faddr 1 (.t 8))),none,0⟩,
⟨(some 138),(.q (.ld false 1 (.t 137))),none,0⟩,
⟨(some 139),(.q (.lenSl (.t 138))),none,0⟩,
⟨(some 140),(.q (.bin .lss (.p .int) (.t 136) (.t 139))),none,0⟩])
(.cond (.t 140) .skip (.exit 4)))
(.seq (.block 5 (.seq (.seq (.reg [⟨(some 143),(.q (.faddr 1 (.t 8))),none,0⟩,
⟨(some 144),(.q (.ld false 1 (.t 143))),none,0⟩,
⟨(some 145),(.q (.mv (.t 22))),none,0⟩,
⟨(some 146),(.q (.iaddr (.slice 6) (.t 144) (.t 145))),none,0⟩,
⟨(some 147),(.q (.faddr 0 (.t 146))),none,0⟩,
⟨(some 148),(.q (.ld false 1 (.t 147))),none,0⟩,
⟨(some 149),(.q (.bin .neq (.p .int) (.t 148) (.c (.int .i64 (.ofNat 3))))),none,0⟩])
(.cond (.t 149) (.exit 5) .skip))
(.seq (.reg [⟨(some 151),(.q (.ld true 3 (.t 8))),none,0⟩,
⟨(some 152),(.q (.mv (.t 9))),none,0⟩,
⟨(some 153),(.q (.mv (.t 22))),none,0⟩,
⟨(some 154),(.x (.call (.c (.fn 40 [] [])) [(.t 151),(.t 152),(.t 153)])),none,0⟩,
⟨(some 150),(.q (.mv (.t 154))),none,0⟩,
⟨(some 155),(.q (.extract (.t 150) 0)),none,0⟩,
⟨(some 156),(.q (.extract (.t 150) 1)),none,0⟩,
⟨(some 23),(.q (.mv (.t 155))),none,0⟩,
⟨(some 24),(.q (.mv (.t 156))),none,0⟩])
(.seq (.drw [⟨(some 157),(.q (.mv (.t 24))),none,0⟩,
⟨(some 158),(.q (.bin .neq (.p .int) (.t 157) (.c (.int .i64 (.ofNat 0))))),none,1⟩,
⟨(some 159),(.q (.mv (.t 158))),none,3⟩,
⟨(some 160),(.q (.mv (.t 23))),(some (159,false)),7⟩,
⟨(some 161),(.q (.mv (.t 15))),(some (159,false)),7⟩,
⟨(some 162),(.q (.mv (.t 13))),(some (159,false)),7⟩,
⟨(some 163),(.q (.bin .quo (.p .int) (.t 161) (.t 162))),(some (159,false)),55⟩,
⟨(some 164),(.q (.bin .mul (.p .int) (.t 160) (.t 163))),(some (159,false)),127⟩,
⟨(some 165),(.q (.mv (.t 17))),(some (159,false)),7⟩,
⟨(some 166),(.q (.mv (.t 22))),(some (159,false)),7⟩,
⟨(some 167),(.q (.iaddr (.slice 1) (.t 165) (.t 166))),(some (159,false)),775⟩,
⟨(some 168),(.q (.ld false 1 (.t 167))),(some (159,false)),1799⟩,
⟨(some 169),(.q (.bin .neq (.p .int) (.t 164) (.t 168))),(some (159,false)),4095⟩,
⟨(some 170),(.q (.pick (.t 159) (.c (.bool true)) (.t 169))),none,8191⟩])
(.cond (.t 170) (.seq (.reg [⟨(some 6),(.q (.mv (.c (.bool false)))),none,0⟩])
.ret) .skip)))))
(.reg [⟨(some 141),(.q (.mv (.t 22))),none,0⟩,
⟨(some 142),(.q (.bin .add (.p .int) (.t 141) (.c (.int .i64 (.ofNat 1))))),none,0⟩,
⟨(some 22),(.q (.mv (.t 142))),none,0⟩])))))
def KeI (X0 : St) (gb fb z1 z : Nat) (cv : AV) (g : PGame) (k : Nat) (A : Act') (X : St) : Prop := A.inr = false ∧ Same X0 X ∧ ∃ (i : Nat), i + k = g.nodes.length ∧ tmpV 8 A.F = .ptr gb 0 ∧ tmpV 9 A.F = cv ∧ tmpV 13 A.F = .int .i64 (z1 : Int) ∧ tmpV 15 A.F = .int .i64 (z : Int) ∧ tmpV 17 A.F = .sl fb 0 g.nodes.length g.nodes.length false ∧ tmpV 22 A.F = .int .i64 (i : Int)
set_option maxHeartbeats 8000000 in
theorem chk_ok {X0 : St} {F : Fr} {gb fb z1 z : Nat} {cv nv iv : AV} {g : PGame} {c : List Int} {p1 W1 : Nat → Nat} {fl : List Int} (H : Has fns) (h : CtH g c p1 W1 z1) (hform : formE g = 0) (hz1 : sizeN g p1 = (z1 : Int)) (hr1 : sizeR g p1 = 0) (hz : z ≤ 3000) (hn : IsSlG 6 NodeE X0 nv g.nodes) (hi : IsSlG 2 InfoE X0 iv g.infos) (hc : IsSl .i64 X0 cv c) (gG : X0.h.get gb = some (.cells [.int .i64 g.players, nv, iv] false 0)) (lg : gb < X0.nx) (lf : fb < X0.nx) (h0 : fl.length = g.nodes.length) (g0 : X0.h.get fb = some (.cells (cells64 fl) false 0)) (hle : ∀ j, j < g.nodes.length → 0 ≤ fl.getD j 0 ∧ fl.getD j 0 ≤ 3000) (heq : ∀ j, j < g.nodes.length → (nodeAt g j).kind = 3 → ((wantN z1 p1 W1 j * (z / z1) : Nat) : Int) = fl.getD j 0)
    (p8 : tmpV 8 F = .ptr gb 0) (p9 : tmpV 9 F = cv) (p13 : tmpV 13 F = .int .i64 (z1 : Int)) (p15 : tmpV 15 F = .int .i64 (z : Int)) (p17 : tmpV 17 F = .sl fb 0 g.nodes.length g.nodes.length false) (p22 : tmpV 22 F = .int .i64 0) :
    wpc fns chkC ⟨F, false⟩ X0 fun o A Y => o = .normal ∧ KeI X0 gb fb z1 z cv g 0 A Y := by
  have hN2 := h.G.good.n2
  have hz0 := h.z0
  unfold chkC
  refine wpc_block (wpc_loop (KeI X0 gb fb z1 z cv g) ?_ g.nodes.length _ _ ⟨rfl, Same.refl _, 0, by omega, p8, p9, p13, p15, p17, p22⟩)
  clear p8 p9 p13 p15 p17 p22
  rintro k ⟨F, inr⟩ V ⟨q0, hs, i, hik, p8, p9, p13, p15, p17, p22⟩
  simp only at q0 p8 p9 p13 p15 p17 p22
  subst q0
  have cV := (hs.2 gb lg).trans gG
  have hnV := IsSlG.same (E := NodeE) firm_node hn hs
  refine wss ?_
  simp only [↓sU, sD, reduceEqDiff, ↓reduceIte, reduceAdd, p8, p22, evQ_faddr, faddr_ptr, lg3_1 cV, hnV.len, Int.ofNat_eq_natCast]
  by_cases hlt : i < g.nodes.length
  rotate_left
  · refine wpc_non (by simp only [↓sU, sD, reduceEqDiff, ↓reduceIte, reduceAdd, decide_eq_false (show ¬ (i : Int) < ((g.nodes.length : Nat) : Int) by omega)]) (wpc_exit ?_)
    simp only [↓sU, sD, reduceEqDiff, ↓reduceIte, reduceAdd]
    obtain rfl : k = 0 := by omega
    exact ⟨rfl, hs, i, hik, by simp only [↓sU, sD, reduceEqDiff, ↓reduceIte, reduceAdd, p8], by simp only [↓sU, sD, reduceEqDiff, ↓reduceIte, reduceAdd, p9], by simp only [↓sU, sD, reduceEqDiff, ↓reduceIte, reduceAdd, p13], by simp only [↓sU, sD, reduceEqDiff, ↓reduceIte, reduceAdd, p15], by simp only [↓sU, sD, reduceEqDiff, ↓reduceIte, reduceAdd, p17], by simp only [↓sU, sD, reduceEqDiff, ↓reduceIte, reduceAdd, p22]⟩
  refine wpc_yes (by simp only [↓sU, sD, reduceEqDiff, ↓reduceIte, reduceAdd, decide_eq_true (show (i : Int) < ((g.nodes.length : Nat) : Int) by omega)]) (wpc_skip ?_)
  try simp only [↓sU, sD, reduceEqDiff, ↓reduceIte, reduceAdd]
  have w0 : IntKind.i64.wrap ((i : Int) + 1) = ((i + 1 : Nat) : Int) := by rw [wrap_i64 (by omega) (by omega)]; omega
  obtain ⟨_, bx, qx, hiax, hbx, _, ⟨xa, xw, xp, rfl, hxa, hxw, hxp⟩, _, hfx⟩ := IsSlG.at hnV (by decide) (nodeAt_some hlt)
  have hf0 := hfx 0 _ rfl
  rw [Nat.add_zero] at hf0
  refine wpc_seq (wpc_block (wpc_seq (wpc_seq (wpc_reg ?_))))
  simp only [↓sU, sD, reduceEqDiff, ↓reduceIte, reduceAdd, p8, p22, evQ_faddr, faddr_ptr, lg3_1 cV, natOf_cast, hiax, Nat.add_zero, hf0]
  by_cases hk3 : (nodeAt g i).kind = 3
  rotate_left
  · refine wpc_yes (by simp only [↓sU, sD, reduceEqDiff, ↓reduceIte, reduceAdd, decide_eq_true hk3]) (wpc_exit ?_)
    simp only [↓sU, sD, reduceEqDiff, ↓reduceIte, reduceAdd]
    refine wpc_reg ?_
    simp only [↓sU, sD, reduceEqDiff, ↓reduceIte, reduceAdd, p22, w0]
    exact ⟨k - 1, by omega, rfl, hs, i + 1, by omega, by simp only [↓sU, sD, reduceEqDiff, ↓reduceIte, reduceAdd, p8], by simp only [↓sU, sD, reduceEqDiff, ↓reduceIte, reduceAdd, p9], by simp only [↓sU, sD, reduceEqDiff, ↓reduceIte, reduceAdd, p13], by simp only [↓sU, sD, reduceEqDiff, ↓reduceIte, reduceAdd, p15], by simp only [↓sU, sD, reduceEqDiff, ↓reduceIte, reduceAdd, p17], by simp only [↓sU, sD, reduceEqDiff, ↓reduceIte, reduceAdd]⟩
  refine wpc_non (by simp only [↓sU, sD, reduceEqDiff, ↓reduceIte, reduceAdd, decide_eq_false (show ¬ (nodeAt g i).kind ≠ 3 from fun e => e hk3)]) (wpc_skip ?_)
  try simp only [↓sU, sD, reduceEqDiff, ↓reduceIte, reduceAdd]
  refine wsr ?_
  simp only [↓sU, sD, reduceEqDiff, ↓reduceIte, reduceAdd, p8, p9, p22, lg3_a cV]
  refine wpo_call ?_
  simp only [↓sU, sD, reduceEqDiff, ↓reduceIte, reduceAdd]
  refine wpf_mono (reach_spec H h hform hnV (IsSlG.same (E := InfoE) firm_info hi hs) (hc.same hs) hz1 hr1 hlt) ?_
  rintro _ Y ⟨hY, rfl⟩
  simp only [↓sU, sD, reduceEqDiff, ↓reduceIte, reduceAdd, ex0, ex1]
  have sY := hs.trans hY
  have gfY := (sY.2 _ lf).trans g0
  have hia := row_ia (b := fb) (o := false) hlt
  have hla := ld64 gfY (p := i) (by omega)
  have he := heq i hlt hk3
  have hb := hle i hlt
  have hquo := bin_quo_i (.p .int) (a := (z : Int)) (b := (z1 : Int)) (by omega) (by omega) (by omega)
  rw [← Int.natCast_ediv] at hquo
  have hw : IntKind.i64.wrap (((wantN z1 p1 W1 i : Nat) : Int) * ((z / z1 : Nat) : Int)) = fl.getD i 0 := by
    rw [← Int.natCast_mul, he]
    exact wrap_i64 (by omega) (by omega)
  have lfY : fb < Y.nx := Nat.lt_of_lt_of_le lf sY.1
  refine wpc_seq (wpc_drq ?_)
  simp only [↓sU, sD, reduceEqDiff, ↓reduceIte, reduceAdd, p13, p15, p17, p22, natOf_cast, hia, hla, hquo, hw, decide_eq_false (show ¬ (0 : Int) ≠ 0 by omega)]
  refine wpc_non (by simp only [↓sU, sD, reduceEqDiff, ↓reduceIte, reduceAdd, decide_eq_false (show ¬ fl.getD i 0 ≠ fl.getD i 0 from fun e => e rfl)]) (wpc_skip ?_)
  try simp only [↓sU, sD, reduceEqDiff, ↓reduceIte, reduceAdd]
  refine wpc_reg ?_
  simp only [↓sU, sD, reduceEqDiff, ↓reduceIte, reduceAdd, p22, w0]
  exact ⟨k - 1, by omega, rfl, ⟨by have := sY.1; show X0.nx ≤ Y.nx + _; omega, sY.2⟩, i + 1, by omega, by simp only [↓sU, sD, reduceEqDiff, ↓reduceIte, reduceAdd, p8], by simp only [↓sU, sD, reduceEqDiff, ↓reduceIte, reduceAdd, p9], by simp only [↓sU, sD, reduceEqDiff, ↓reduceIte, reduceAdd, p13], by simp only [↓sU, sD, reduceEqDiff, ↓reduceIte, reduceAdd, p15], by simp only [↓sU, sD, reduceEqDiff, ↓reduceIte, reduceAdd, p17], by simp only [↓sU, sD, reduceEqDiff, ↓reduceIte, reduceAdd]⟩
end Go.Ev.Gl

namespace Go.Ev.Gl
variable {fns : T AFn}

/-! ## DealPure -/
theorem bldTc {F : Fr} {h : Ev.T AB} {b : Int} : evQ (.build [.int .i64 0, .nilsl] [(0, 1, .c (.int .i64 b))]) F h = some (.agg [.int .i64 b, .nilsl]) := rfl
set_option maxHeartbeats 16000000 in
theorem pures_spec {S : St} {lv mv : AV} {dl dm : List Int} {players : Int} (H : Has fns) (hAw : ∀ S, wpf fns (.fn 32 [] []) [] S fun r S' => r = .bool true ∧ Same S S') (hl : IsSl .i64 S lv dl) (hlb : dl.length ≤ 140737488355328) (hm : IsSl .i64 S mv dm) (hmb : dm.length ≤ 140737488355328) :
    wpf fns (.fn 8 [] []) [lv, mv, .int .i64 players] S fun r S' => r = .bool true ∧ Same S S' := by
  have hmc := IsSl.cells hm
  refine wpf_fn H.f8 (by simp) ?_
  simp only [↓sU, sD, reduceEqDiff, ↓reduceIte, reduceAdd]
  refine wsr ?_
  simp only [↓sU, sD, reduceEqDiff, ↓reduceIte, reduceAdd]
  have hbd1 := fun (F : Fr) (h : Ev.T AB) (a : tmpV 25 F = mv) => bldDt (t := 25) (F := F) (h := h) a hmc
  refine wsr ?_
  simp only [↓stU, stD, reduceEqDiff, ↓reduceIte, reduceAdd, hbd1]
  refine wpo_box (cs := [mv, .int .i64 0]) (by simp only [↓stU, stD, reduceEqDiff, ↓reduceIte, reduceAdd]; exact cells_agg _) ?_
  intro S1 s1 n1 g1
  simp only [↓stU, stD, reduceEqDiff, ↓reduceIte, reduceAdd]
  refine wsr ?_
  simp only [↓stU, stD, reduceEqDiff, ↓reduceIte, reduceAdd]
  refine wpo_call ?_
  simp only [↓stU, stD, reduceEqDiff, ↓reduceIte, reduceAdd]
  refine wpf_mono (modK_spec H (x := players) (n := 3) (by decide) (by decide)) ?_
  rintro _ S2 ⟨s2, y, rfl, y1, y2⟩
  have wy : IntKind.i64.wrap (1 + y) = 1 + y := wrap_i64 (by omega) (by omega)
  simp only [↓stU, stD, reduceEqDiff, ↓reduceIte, reduceAdd, wy]
  refine wpo_call ?_
  simp only [↓stU, stD, reduceEqDiff, ↓reduceIte, reduceAdd]
  refine wpf_mono (gameOf_spec H (hl.same (s1.trans s2)) hlb ⟨by omega, by omega⟩ ⟨by decide, by decide⟩) ?_
  rintro _ S3 ⟨s3, g, nv, iv, rfl, hgp, hf, hgl, hN, hn3, hi3, hmv⟩
  have hlowl := fun {c} (hc : blkOf lv = some c) => sl_low hl hc
  have hlowm := fun {c} (hc : blkOf mv = some c) => sl_low hm hc
  have m2 := s2.1
  have m3 := s3.1
  try simp only [↓stU, stD, reduceEqDiff, ↓reduceIte, reduceAdd]
  refine wpo_alloc ?_
  intro S4 s4 n4 g4
  refine wpo_st (b := S3.nx) (by simp only [↓stU, stD, reduceEqDiff, ↓reduceIte, reduceAdd]) (by simp only [↓stU, stD, reduceEqDiff, ↓reduceIte, reduceAdd]; exact cells_agg _) g4 rfl rfl ?_
  intro S5 s5 n5 g5
  simp only [↓stU, stD, reduceEqDiff, ↓reduceIte, reduceAdd]
  have s35 : Same S3 S5 := s5.same s4 (Nat.le_refl _)
  have s15 := (s2.trans s3).trans s35
  have sS5 := s1.trans s15
  have gd5 : S5.h.get S.nx = some (.cells [mv, .int .i64 ((0 : Nat) : Int)] false 0) := (s15.2 _ (by omega)).trans g1
  have hd5 : DrwB S5 S.nx mv dm := ⟨by omega, ⟨0, gd5, Nat.zero_le _⟩, hm.same sS5, fun e => by have := hlowm e; omega, hmb⟩
  have m5 := s35.1
  clear s4 g4 s5
  have hgame5 : ∀ X' : St, S5.nx ≤ X'.nx → (∀ c, c < S5.nx → c ≠ S.nx → X'.h.get c = S5.h.get c) → IsSlG 6 NodeE X' nv g.nodes ∧ IsSlG 2 InfoE X' iv g.infos := fun X' hn hk => hmv X' (by omega) fun c hc ho => by
    have hne : c ≠ S.nx := by
      rcases ho with h | h
      · omega
      · have := hlowl h; omega
    rw [hk c (by omega) hne]
    exact s35.2 c hc
  refine wsr ?_
  simp only [↓sU, sD, reduceEqDiff, ↓reduceIte, reduceAdd, lg3_a g5]
  refine wpo_call ?_
  simp only [↓sU, sD, reduceEqDiff, ↓reduceIte, reduceAdd]
  refine wpf_mono (choiceOf_spec H hd5 (fun X' h1 h2 => (hgame5 X' h1 h2).2) (fun i hi => acts_bd hf hN hi) (infos_le hf)) ?_
  rintro cv S6 ⟨x6, hd6, c, ic6, C, hcb⟩
  try simp only [↓sU, sD, reduceEqDiff, ↓reduceIte, reduceAdd]
  refine wsr ?_
  simp only [↓stU, stD, reduceEqDiff, ↓reduceIte, reduceAdd, bldTc]
  refine wpo_alloc ?_
  intro S7 s7 n7 g7
  refine wpo_st (b := S6.nx) (by simp only [↓stU, stD, reduceEqDiff, ↓reduceIte, reduceAdd]) (by simp only [↓stU, stD, reduceEqDiff, ↓reduceIte, reduceAdd]; exact cells_agg _) g7 rfl rfl ?_
  intro S8 s8 n8 g8
  simp only [↓stU, stD, reduceEqDiff, ↓reduceIte, reduceAdd]
  have s68 : Same S6 S8 := s8.same s7 (Nat.le_refl _)
  have n6 := x6.1
  have m8 := s68.1
  have gg8 : S8.h.get S3.nx = some (.cells [.int .i64 g.players, nv, iv] false 0) := by rw [s68.2 _ (by omega), x6.2 _ (by omega) (by omega)]; exact g5
  clear s7 g7 s8
  have hgame : ∀ X' : St, S8.nx ≤ X'.nx → (∀ c, c < S8.nx → c ≠ S6.nx → X'.h.get c = S8.h.get c) → (IsSlG 6 NodeE X' nv g.nodes ∧ IsSlG 2 InfoE X' iv g.infos) ∧ IsSl .i64 X' cv c := fun X' hn hk => ⟨hgame5 X' (by omega) fun b hb hne => by
    rw [hk b (by omega) (by omega), s68.2 b (by omega)]
    exact x6.2 b hb hne, sl_move ic6 (by omega) fun b hb => by
    have hb6 := sl_low ic6 hb
    rw [hk b (by omega) (by omega)]
    exact s68.2 b hb6⟩
  refine wss ?_
  simp only [↓sU, sD, reduceEqDiff, ↓reduceIte, reduceAdd]
  refine wpc_mono (pure_ok (S0 := S8) (gb := S3.nx) (tb := S6.nx) (nv := nv) (iv := iv) (cv := cv) (c := c) (g := g) C gg8 g8 (by omega) (by omega) (by omega) (fun X' h1 h2 => ⟨(hgame X' h1 h2).1.2, (hgame X' h1 h2).2⟩) (fun i hi => acts_bd hf hN hi) (infos_le hf) (by simp only [↓sU, sD, reduceEqDiff, ↓reduceIte, reduceAdd]) (by simp only [↓sU, sD, reduceEqDiff, ↓reduceIte, reduceAdd]) (by simp only [↓sU, sD, reduceEqDiff, ↓reduceIte, reduceAdd]) (by simp only [↓sU, sD, reduceEqDiff, ↓reduceIte, reduceAdd]; try rfl)) ?_
  rintro o ⟨F, inr⟩ X ⟨rfl, q0, nX, kX, i, pv, cs, L, hik, hLl, hL, gX, hg, hR, p8, p9, p10, _⟩
  simp only at q0 p8 p9 p10
  subst q0
  obtain rfl : i = g.infos.length := by omega
  obtain ⟨⟨hn, hi⟩, hc⟩ := hgame X nX kX
  have hv : IsSlG 1 SlE X pv L := hR.is hg hLl.symm
  have ggX := (kX S3.nx (by omega) (by omega)).trans gg8
  have hLn : L.length = g.infos.length := hLl
  have hfit : fitE g 1 L = 0 := fit_ok hf hN (by omega) (infos_le hf) hLn fun j hj => by rw [hL j (by omega)]; exact pureR_ok C (by omega)
  have hNl : g.nodes.length ≤ 15 := by omega
  obtain ⟨p1, p2, W1, z1, z2, hCt, hz1, hr1, P2, hE, hZ, z0, zb, hdv, heq⟩ := pt_of hf hN hNl C hL hfit
  have hz10 := hCt.z0
  have G := goodK_of hf
  have Tg := (goodT_of hfit).2
  have hil := infos_le hf
  have sSX : Same S X := ⟨by omega, fun c hc => by
    rw [kX c (by omega) (by omega), s68.2 c (by omega), x6.2 c (by omega) (by omega)]
    exact sS5.2 c hc⟩
  have lgX : S3.nx < X.nx := by omega
  have ltX : S6.nx < X.nx := by omega
  clear hgame hgame5 gg8 hmv kX hg hR hd6 g8 hd5 gd5 g5 x6 s68 s15 sS5 s35 hn3 hi3 ic6 hcb
  try simp only [↓sU, sD, reduceEqDiff, ↓reduceIte, reduceAdd]
  refine wsr ?_
  simp only [↓sU, sD, reduceEqDiff, ↓reduceIte, reduceAdd, p8, lg3_a ggX]
  refine wpo_call ?_
  simp only [↓sU, sD, reduceEqDiff, ↓reduceIte, reduceAdd]
  refine wpf_mono (size_spec (pr := p1) H hn hi (by omega) fun _ => prods_one hCt.P) ?_
  rintro _ Y0 ⟨hY0, rfl⟩
  rw [if_pos hf, hz1, hr1]
  simp only [↓sU, sD, reduceEqDiff, ↓reduceIte, reduceAdd, ex0, ex1]
  have gg0 := (hY0.2 _ lgX).trans ggX
  have gt0 := (hY0.2 _ ltX).trans gX
  refine wsr ?_
  simp only [↓sU, sD, reduceEqDiff, ↓reduceIte, reduceAdd, p8, p10, lg3_a gg0, lg2_a gt0]
  refine wpo_call ?_
  simp only [↓sU, sD, reduceEqDiff, ↓reduceIte, reduceAdd]
  refine wpf_mono (spreadP_spec (pr := p2) H (IsSlG.same (E := NodeE) firm_node hn hY0) (IsSlG.same (E := InfoE) firm_info hi hY0) (IsSlG.same (E := SlE) firm_sl hv hY0) (by omega) (by omega) fun _ => P2) ?_
  rintro _ Y ⟨hY1, rfl⟩
  rw [hE, hZ]
  simp only [↓sU, sD, reduceEqDiff, ↓reduceIte, reduceAdd, ex0, ex1]
  have hY := hY0.trans hY1
  have nY := hY.1
  have hrem := bin_rem_nat (.p .int) .i64 (t := z2) hz10
  rw [Nat.mod_eq_zero_of_dvd hdv] at hrem
  refine wss ?_
  simp only [↓sU, sD, reduceEqDiff, ↓reduceIte, reduceAdd, decide_eq_false (show ¬ (0 : Int) ≠ 0 by omega), decide_eq_false (show ¬ (z1 : Int) < 1 by omega), hrem]
  refine wpc_non (by simp only [↓sU, sD, reduceEqDiff, ↓reduceIte, reduceAdd]; try rfl) (wpc_skip ?_)
  try simp only [↓sU, sD, reduceEqDiff, ↓reduceIte, reduceAdd]
  refine wss ?_
  simp only [↓sU, sD, reduceEqDiff, ↓reduceIte, reduceAdd]
  by_cases hbig : 2000 < z2
  · refine wpc_yes (by simp only [↓sU, sD, reduceEqDiff, ↓reduceIte, reduceAdd, decide_eq_true (show (z2 : Int) > 2000 by omega)]) ?_
    refine wsr ?_
    simp only [↓sU, sD, reduceEqDiff, ↓reduceIte, reduceAdd]
    refine wpo_call ?_
    simp only [↓sU, sD, reduceEqDiff, ↓reduceIte, reduceAdd]
    refine wpf_mono (hAw _) ?_
    rintro _ Y2 ⟨rfl, h2⟩
    try simp only [↓sU, sD, reduceEqDiff, ↓reduceIte, reduceAdd]
    refine wpc_ret ?_
    simp only [↓sU, sD, reduceEqDiff, ↓reduceIte, reduceAdd]
    exact (sSX.trans hY).trans h2
  refine wpc_non (by simp only [↓sU, sD, reduceEqDiff, ↓reduceIte, reduceAdd, decide_eq_false (show ¬ (z2 : Int) > 2000 by omega)]) (wpc_skip ?_)
  try simp only [↓sU, sD, reduceEqDiff, ↓reduceIte, reduceAdd]
  have hnY := IsSlG.same (E := NodeE) firm_node hn hY
  have hiY := IsSlG.same (E := InfoE) firm_info hi hY
  have hvY := IsSlG.same (E := SlE) firm_sl hv hY
  have hcY := hc.same hY
  have ggY := (hY.2 _ lgX).trans ggX
  have gtY := (hY.2 _ ltX).trans gX
  refine wsr ?_
  simp only [↓stU, stD, reduceEqDiff, ↓reduceIte, reduceAdd, p8, evQ_faddr, faddr_ptr, lg3_1 ggY, hnY.len]
  refine wpo_al (evA_mk (n := g.nodes.length) (by simp only [↓stU, stD, reduceEqDiff, ↓reduceIte, reduceAdd, natOf_cast]) (by simp only [↓stU, stD, reduceEqDiff, ↓reduceIte, reduceAdd, natOf_cast]) (by unfold room; omega) (by unfold room; omega)) ?_
  intro V1 v1 k1 e1
  rw [zeros64] at e1
  simp only [↓stU, stD, reduceEqDiff, ↓reduceIte, reduceAdd]
  refine wss ?_
  simp only [↓sU, sD, reduceEqDiff, ↓reduceIte, reduceAdd]
  refine wpc_mono (lst_ok (X0 := Y) (gb := S3.nx) (tb := S6.nx) (fb := Y.nx) (z1 := z1) (z := z2) (cv := cv) (nv := nv) (iv := iv) (sv := pv) (g := g) (b := 1) (L := L) (pr := p2) H G Tg hNl (by omega) hE hZ P2 hnY hiY hvY ggY gtY (by omega) (by omega) v1 (Nat.le_refl _) (by omega) (List.length_replicate ..) (fun j hj => getD_rep0 hj) e1 (by simp only [↓sU, sD, reduceEqDiff, ↓reduceIte, reduceAdd, p8]) (by simp only [↓sU, sD, reduceEqDiff, ↓reduceIte, reduceAdd, p9]) (by simp only [↓sU, sD, reduceEqDiff, ↓reduceIte, reduceAdd, p10]) (by simp only [↓sU, sD, reduceEqDiff, ↓reduceIte, reduceAdd]; try rfl) (by simp only [↓sU, sD, reduceEqDiff, ↓reduceIte, reduceAdd]; try rfl) (by simp only [↓sU, sD, reduceEqDiff, ↓reduceIte, reduceAdd]; try rfl) (by simp only [↓sU, sD, reduceEqDiff, ↓reduceIte, reduceAdd]; try rfl)) ?_
  clear p8 p9 p10
  rintro o ⟨F, inr⟩ Z ⟨rfl, q0, sZ, lfZ, s, fl, hsz, hfl, hfd, gf, p8, p9, p10, p13, p15, p17, _⟩
  simp only at q0 p8 p9 p10 p13 p15 p17
  subst q0
  obtain rfl : s = z2 := by omega
  try simp only [↓sU, sD, reduceEqDiff, ↓reduceIte, reduceAdd]
  refine wss ?_
  simp only [↓sU, sD, reduceEqDiff, ↓reduceIte, reduceAdd]
  refine wpc_mono (chk_ok (X0 := Z) (gb := S3.nx) (fb := Y.nx) (z1 := z1) (z := s) (cv := cv) (nv := nv) (iv := iv) (g := g) (c := c) (p1 := p1) (W1 := W1) (fl := fl) H hCt hf hz1 hr1 (by omega) (IsSlG.same (E := NodeE) firm_node hnY sZ) (IsSlG.same (E := InfoE) firm_info hiY sZ) (hcY.same sZ) ((sZ.2 S3.nx (by omega)).trans ggY) (by have := sZ.1; omega) lfZ hfl gf (fun j hj => by rw [hfd j hj]; have := lstN_le (g := g) (b := 1) (L := L) (j := j) (s := s); omega) (fun j hj hk => by rw [hfd j hj, heq j hj hk]) (by simp only [↓sU, sD, reduceEqDiff, ↓reduceIte, reduceAdd, p8]) (by simp only [↓sU, sD, reduceEqDiff, ↓reduceIte, reduceAdd, p9]) (by simp only [↓sU, sD, reduceEqDiff, ↓reduceIte, reduceAdd, p13]) (by simp only [↓sU, sD, reduceEqDiff, ↓reduceIte, reduceAdd, p15]) (by simp only [↓sU, sD, reduceEqDiff, ↓reduceIte, reduceAdd, p17]) (by simp only [↓sU, sD, reduceEqDiff, ↓reduceIte, reduceAdd]; try rfl)) ?_
  clear p8 p9 p10 p13 p15 p17
  rintro o ⟨F, inr⟩ Z2 ⟨rfl, q0, sZ2, _⟩
  simp only at q0
  subst q0
  try simp only [↓sU, sD, reduceEqDiff, ↓reduceIte, reduceAdd]
  refine wsr ?_
  simp only [↓sU, sD, reduceEqDiff, ↓reduceIte, reduceAdd]
  refine wpo_call ?_
  simp only [↓sU, sD, reduceEqDiff, ↓reduceIte, reduceAdd]
  refine wpf_mono (hAw _) ?_
  rintro _ T2 ⟨rfl, t2⟩
  try simp only [↓sU, sD, reduceEqDiff, ↓reduceIte, reduceAdd]
  refine wpc_ret ?_
  try simp only [↓sU, sD, reduceEqDiff, ↓reduceIte, reduceAdd]
  exact (((sSX.trans hY).trans sZ).trans sZ2).trans t2
end Go.Ev.Gl
