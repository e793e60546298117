/- Contracts (18): rational numbers, the statements' tools, the law. -/
import Derived.Test.YtoojnpjgnnpllaaGl17
open Nat (reduceEqDiff reduceAdd)
set_option maxHeartbeats 4000000
set_option linter.unusedSimpArgs false
set_option linter.unusedVariables false
namespace Go.Ev.Gl
variable {fns : T AFn}

/-! ## Counting plays, plain -/
def sumN : Nat → (Nat → Nat) → Nat
  | 0, _ => 0
  | n + 1, f => sumN n f + f n
theorem sumN_congr : ∀ {n : Nat} {f g : Nat → Nat}, (∀ i, i < n → f i = g i) → sumN n f = sumN n g
  | 0, _, _, _ => rfl
  | n + 1, f, g, h => by
    show sumN n f + f n = sumN n g + g n
    rw [sumN_congr fun i hi => h i (by omega), h n (by omega)]
theorem sumN_zero : ∀ {n : Nat}, sumN n (fun _ => 0) = 0
  | 0 => rfl
  | n + 1 => by show sumN n (fun _ => 0) + 0 = 0; rw [sumN_zero (n := n)]
theorem sumN_mul {a : Nat} {f : Nat → Nat} : ∀ {n : Nat}, sumN n (fun i => f i * a) = sumN n f * a
  | 0 => by show 0 = 0 * a; rw [Nat.zero_mul]
  | n + 1 => by
    show sumN n (fun i => f i * a) + f n * a = (sumN n f + f n) * a
    rw [sumN_mul (n := n), Nat.add_mul]
theorem sumN_one : ∀ {n : Nat}, sumN n (fun _ => 1) = n
  | 0 => rfl
  | n + 1 => by show sumN n (fun _ => 1) + 1 = n + 1; rw [sumN_one (n := n)]
theorem sumN_split {f : Nat → Nat} {a : Nat} : ∀ {b : Nat}, sumN (a + b) f = sumN a f + sumN b (fun i => f (a + i))
  | 0 => rfl
  | b + 1 => by
    show sumN (a + b) f + f (a + b) = sumN a f + (sumN b (fun i => f (a + i)) + f (a + b))
    rw [sumN_split (b := b)]
    omega
theorem sumN_blocks {f : Nat → Nat} {R : Nat} : ∀ {m : Nat}, sumN (m * R) f = sumN m (fun u => sumN R (fun d => f (u * R + d)))
  | 0 => by rw [Nat.zero_mul]; rfl
  | m + 1 => by
    rw [Nat.succ_mul, sumN_split, sumN_blocks (m := m)]
    rfl
/-- how many digits choose a child -/
theorem pick_count : ∀ {l : List Int} {k : Nat}, (∀ x ∈ l, 0 ≤ x) → sumN l.sum.toNat (fun d => if pickN l (d : Int) = k ∧ k < l.length then 1 else 0) = (l.getD k 0).toNat
  | [], k, _ => rfl
  | w :: l, k, h => by
    have hw := h w (List.mem_cons_self ..)
    have hl := fun x hx => h x (List.mem_cons_of_mem _ hx)
    have hs : 0 ≤ l.sum := by
      clear h
      induction l with
      | nil => simp
      | cons x l ih =>
        rw [List.sum_cons]
        have := hl x (List.mem_cons_self ..)
        have := ih fun y hy => hl y (List.mem_cons_of_mem _ hy)
        omega
    have e : (w :: l).sum.toNat = w.toNat + l.sum.toNat := by rw [List.sum_cons]; omega
    rw [e, sumN_split]
    have p1 : ∀ d, d < w.toNat → pickN (w :: l) (d : Int) = 0 := fun d hd => by
      show (if (d : Int) < w then 0 else pickN l ((d : Int) - w) + 1) = 0
      rw [if_pos (by omega)]
    have p2 : ∀ d, pickN (w :: l) ((w.toNat + d : Nat) : Int) = pickN l (d : Int) + 1 := fun d => by
      show (if ((w.toNat + d : Nat) : Int) < w then 0 else pickN l (((w.toNat + d : Nat) : Int) - w) + 1) = _
      rw [if_neg (by omega), show ((w.toNat + d : Nat) : Int) - w = (d : Int) by omega]
    cases k with
    | zero =>
      have a1 : sumN w.toNat (fun d => if pickN (w :: l) (d : Int) = 0 ∧ 0 < (w :: l).length then 1 else 0) = w.toNat := by
        rw [sumN_congr (g := fun _ => 1) fun d hd => by rw [if_pos ⟨p1 d hd, by simp⟩], sumN_one]
      have a2 : sumN l.sum.toNat (fun d => if pickN (w :: l) ((w.toNat + d : Nat) : Int) = 0 ∧ 0 < (w :: l).length then 1 else 0) = 0 := by
        rw [sumN_congr (g := fun _ => 0) fun d hd => by rw [if_neg (by rw [p2 d]; omega)], sumN_zero]
      rw [a1, a2]
      rfl
    | succ k =>
      have a1 : sumN w.toNat (fun d => if pickN (w :: l) (d : Int) = k + 1 ∧ k + 1 < (w :: l).length then 1 else 0) = 0 := by
        rw [sumN_congr (g := fun _ => 0) fun d hd => by rw [if_neg (by rw [p1 d hd]; omega)], sumN_zero]
      have a2 : sumN l.sum.toNat (fun d => if pickN (w :: l) ((w.toNat + d : Nat) : Int) = k + 1 ∧ k + 1 < (w :: l).length then 1 else 0) = (l.getD k 0).toNat := by
        rw [← pick_count (l := l) (k := k) hl]
        refine sumN_congr fun d hd => ?_
        rw [p2 d, List.length_cons]
        by_cases hh : pickN l (d : Int) = k ∧ k < l.length
        · rw [if_pos (by omega), if_pos hh]
        · rw [if_neg (by omega), if_neg hh]
      rw [a1, a2, Nat.zero_add]
      rfl
/-- the nodes and rests of a play -/
def trL (g : PGame) (D : Dec) : Nat → Nat → Nat → List (Nat × Nat)
  | 0, _, _ => []
  | f + 1, i, s => if (nodeAt g i).kind = 3 then [(i, s)] else (i, s) :: trL g D f ((nodeAt g i).next.getD ((decAt D (nodeAt g i)).chs (nodeAt g i) (s % (decAt D (nodeAt g i)).rad (nodeAt g i))) 0).toNat (s / (decAt D (nodeAt g i)).rad (nodeAt g i))
def visS (φ : Nat → Nat) (j : Nat) (l : List (Nat × Nat)) : Nat := (l.map fun x => if x.1 = j then φ x.2 else 0).sum
theorem visS_cons {φ : Nat → Nat} {j : Nat} {x : Nat × Nat} {l : List (Nat × Nat)} : visS φ j (x :: l) = (if x.1 = j then φ x.2 else 0) + visS φ j l := by
  unfold visS
  rw [List.map_cons, List.sum_cons]
theorem path_tr {g : PGame} {D : Dec} : ∀ {f i s : Nat}, pathL g D f i s = (trL g D f i s).map fun x => (x.1 : Int)
  | 0, _, _ => rfl
  | f + 1, i, s => by
    simp only [pathL, trL]
    split
    · rfl
    · rw [List.map_cons, path_tr (f := f)]
/-- a child is visited whenever its parent chooses it -/
theorem vis_step {g : PGame} {D : Dec} (G : GoodK g) {q k : Nat} (hq : q < g.nodes.length) (hk : k < (nodeAt g q).next.length) (hlt : ∀ i, i < g.nodes.length → (nodeAt g i).kind ≠ 3 → ∀ d, d < (decAt D (nodeAt g i)).rad (nodeAt g i) → (decAt D (nodeAt g i)).chs (nodeAt g i) d < (nodeAt g i).next.length) (hrad : ∀ i, i < g.nodes.length → (nodeAt g i).kind ≠ 3 → 0 < (decAt D (nodeAt g i)).rad (nodeAt g i)) (φ : Nat → Nat) :
    ∀ {f i s : Nat}, i < g.nodes.length → g.nodes.length ≤ f + i → visS φ ((nodeAt g q).next.getD k 0).toNat (trL g D f i s) = visS (fun r => if (decAt D (nodeAt g q)).chs (nodeAt g q) (r % (decAt D (nodeAt g q)).rad (nodeAt g q)) = k then φ (r / (decAt D (nodeAt g q)).rad (nodeAt g q)) else 0) q (trL g D f i s) + (if i = ((nodeAt g q).next.getD k 0).toNat then φ s else 0)
  | 0, i, s, hi, hf => by omega
  | f + 1, i, s, hi, hf => by
    have hkq : (nodeAt g q).kind ≠ 3 := fun h => by rw [G.fin q hq h] at hk; exact absurd hk (Nat.not_lt_zero _)
    obtain ⟨c1, c2⟩ := G.good.kids q hq k hk
    simp only [trL]
    by_cases h3 : (nodeAt g i).kind = 3
    · rw [if_pos h3, visS_cons, visS_cons]
      have hiq : i ≠ q := fun e => hkq (by rw [← e]; exact h3)
      rw [if_neg (show ¬ (i, s).1 = q from hiq)]
      show (if i = _ then φ s else 0) + 0 = 0 + 0 + _
      omega
    · rw [if_neg h3, visS_cons, visS_cons]
      have hR := hrad i hi h3
      have hd := Nat.mod_lt s hR
      have hch := hlt i hi h3 _ hd
      obtain ⟨b1, b2⟩ := G.good.kids i hi _ hch
      have ih := vis_step G hq hk hlt hrad φ (f := f) (i := ((nodeAt g i).next.getD ((decAt D (nodeAt g i)).chs (nodeAt g i) (s % (decAt D (nodeAt g i)).rad (nodeAt g i))) 0).toNat) (s := s / (decAt D (nodeAt g i)).rad (nodeAt g i)) (by omega) (by omega)
      rw [ih]
      have key : (if ((nodeAt g i).next.getD ((decAt D (nodeAt g i)).chs (nodeAt g i) (s % (decAt D (nodeAt g i)).rad (nodeAt g i))) 0).toNat = ((nodeAt g q).next.getD k 0).toNat then φ (s / (decAt D (nodeAt g i)).rad (nodeAt g i)) else 0) = (if (i, s).1 = q then (if (decAt D (nodeAt g q)).chs (nodeAt g q) ((i, s).2 % (decAt D (nodeAt g q)).rad (nodeAt g q)) = k then φ ((i, s).2 / (decAt D (nodeAt g q)).rad (nodeAt g q)) else 0) else 0) := by
        by_cases he : ((nodeAt g i).next.getD ((decAt D (nodeAt g i)).chs (nodeAt g i) (s % (decAt D (nodeAt g i)).rad (nodeAt g i))) 0).toNat = ((nodeAt g q).next.getD k 0).toNat
        · obtain ⟨rfl, hkk⟩ := G.good.only hi hch hq hk (by omega)
          rw [if_pos he, if_pos (show (i, s).1 = i from rfl), if_pos hkk]
        · rw [if_neg he]
          by_cases hiq : i = q
          · subst hiq
            rw [if_pos (show (i, s).1 = i from rfl), if_neg (fun e => he (by rw [show (decAt D (nodeAt g i)).chs (nodeAt g i) (s % (decAt D (nodeAt g i)).rad (nodeAt g i)) = k from e]))]
          · rw [if_neg (show ¬ (i, s).1 = q from hiq)]
      rw [key]
      show (if i = _ then φ s else 0) + _ = _
      omega
end Go.Ev.Gl

namespace Go.Ev.Gl
variable {fns : T AFn}

/-! ## How many seeds visit a node, plain -/
section
variable {g : PGame} {b : Int} {L : List (List Int)} {v : AV}
theorem dec_facts (G : GoodK g) (T : GoodT g b L) {i : Nat} (hi : i < g.nodes.length) (h3 : (nodeAt g i).kind ≠ 3) : (decAt (decS b v L) (nodeAt g i)).rad (nodeAt g i) = wM (radM b) g i ∧ (∀ d : Nat, (decAt (decS b v L) (nodeAt g i)).chs (nodeAt g i) d = pickN (wL g L i) (d : Int)) ∧ (wL g L i).sum = ((wM (radM b) g i : Nat) : Int) ∧ 0 < wM (radM b) g i ∧ (∀ y ∈ wL g L i, 0 ≤ y) ∧ (wL g L i).length = (nodeAt g i).next.length ∧ ∀ d : Nat, d < wM (radM b) g i → pickN (wL g L i) (d : Int) < (nodeAt g i).next.length := by
  obtain ⟨hs, h1, hlen, _⟩ := wL_facts G T hi h3
  have hp := (wM_bd (radM_bd T.b2) G hi).1
  have hpk : ∀ d : Nat, ((d : Int) < (wL g L i).sum) → pickN (wL g L i) (d : Int) < (nodeAt g i).next.length := fun d hd => by
    rw [← hlen]
    exact pickN_lt (by omega) hd
  have h0 : ∀ y ∈ wL g L i, 0 ≤ y := fun y hy => (hs.2 y hy).1
  rcases G.knd i hi with hk | hk | hk
  · have e : wL g L i = (nodeAt g i).weights := by unfold wL; rw [if_neg (by omega)]
    have e2 : wM (radM b) g i = (nodeAt g i).weights.sum.toNat := by unfold wM; rw [if_pos hk]
    have e3 : (wL g L i).sum = ((wM (radM b) g i : Nat) : Int) := by rw [e2, e]; rw [e] at h1; omega
    refine ⟨?_, fun d => ?_, e3, hp, h0, hlen, fun d hd => hpk d (by omega)⟩
    · unfold decAt; rw [if_pos hk, e2]; rfl
    · unfold decAt; rw [if_pos hk, e]; rfl
  · have e : wL g L i = L.getD (nodeAt g i).info.toNat [] := by unfold wL; rw [if_pos hk]
    have e2 : wM (radM b) g i = radM b := by unfold wM; rw [if_neg (by omega), if_pos hk]
    obtain ⟨a1, a2, a3⟩ := G.good.inf i hi hk
    have hl := T.len
    obtain ⟨_, hsum⟩ := T.shs (nodeAt g i).info.toNat (by omega)
    have e3 : (wL g L i).sum = ((wM (radM b) g i : Nat) : Int) := by rw [e2, e, hsum]
    refine ⟨?_, fun d => ?_, e3, hp, h0, hlen, fun d hd => hpk d (by omega)⟩
    · unfold decAt; rw [if_neg (by omega), e2]; rfl
    · unfold decAt; rw [if_neg (by omega), e]; rfl
  · exact absurd hk h3
/-- a function from the root down -/
theorem exists_down {g : PGame} (G : GoodG g) (F : Nat → Nat → Nat → Nat) : ∃ W : Nat → Nat, W 0 = 1 ∧ ∀ i, i < g.nodes.length → ∀ k, k < (nodeAt g i).next.length → W ((nodeAt g i).next.getD k 0).toNat = F i k (W i) := by
  have key : ∀ n : Nat, ∃ W : Nat → Nat, W 0 = 1 ∧ ∀ i, i < g.nodes.length → ∀ k, k < (nodeAt g i).next.length → (nodeAt g i).next.getD k 0 < (n : Int) → W ((nodeAt g i).next.getD k 0).toNat = F i k (W i) := by
    intro n
    induction n with
    | zero => exact ⟨fun _ => 1, rfl, fun i hi k hk h => by have := (G.kids i hi k hk).1; omega⟩
    | succ n ih =>
      obtain ⟨W, h0, h1⟩ := ih
      by_cases hn : 0 < n ∧ n < g.nodes.length
      · obtain ⟨q, k0, hq, hk0, he⟩ := parent_of G hn.1 hn.2
        refine ⟨fun j => if j = n then F q k0 (W q) else W j, by simp only; rw [if_neg (by omega)]; exact h0, fun i hi k hk h => ?_⟩
        have hb := G.kids i hi k hk
        simp only
        by_cases e : (nodeAt g i).next.getD k 0 = (n : Int)
        · obtain ⟨rfl, rfl⟩ := G.only hi hk (by omega) hk0 (by rw [e, he])
          rw [e, Int.toNat_natCast, if_pos rfl, if_neg (by omega)]
        · rw [if_neg (by omega), if_neg (by omega)]
          exact h1 i hi k hk (by omega)
      · refine ⟨W, h0, fun i hi k hk h => h1 i hi k hk ?_⟩
        have hb := G.kids i hi k hk
        omega
  obtain ⟨W, h0, h1⟩ := key g.nodes.length
  exact ⟨W, h0, fun i hi k hk => h1 i hi k hk (G.kids i hi k hk).2⟩
/-- the weights of the ways to the nodes -/
structure MassW (g : PGame) (L : List (List Int)) (W : Nat → Nat) : Prop where
  zero : W 0 = 1
  kid : ∀ i, i < g.nodes.length → ∀ k, k < (nodeAt g i).next.length → W ((nodeAt g i).next.getD k 0).toNat = W i * ((wL g L i).getD k 0).toNat
theorem exists_mass (L : List (List Int)) (G : GoodG g) : ∃ W, MassW g L W := by
  obtain ⟨W, h0, h1⟩ := exists_down G fun i k w => w * ((wL g L i).getD k 0).toNat
  exact ⟨W, h0, h1⟩
theorem vis_lt {φ : Nat → Nat} {D : Dec} (G : GoodK g) (hlt : ∀ i, i < g.nodes.length → (nodeAt g i).kind ≠ 3 → ∀ d, d < (decAt D (nodeAt g i)).rad (nodeAt g i) → (decAt D (nodeAt g i)).chs (nodeAt g i) d < (nodeAt g i).next.length) (hrad : ∀ i, i < g.nodes.length → (nodeAt g i).kind ≠ 3 → 0 < (decAt D (nodeAt g i)).rad (nodeAt g i)) {j : Nat} : ∀ {f i s : Nat}, i < g.nodes.length → j < i → visS φ j (trL g D f i s) = 0
  | 0, _, _, _, _ => rfl
  | f + 1, i, s, hi, hj => by
    simp only [trL]
    by_cases h3 : (nodeAt g i).kind = 3
    · rw [if_pos h3, visS_cons]
      have : ¬ (i, s).1 = j := by show ¬ i = j; omega
      rw [if_neg this]
      rfl
    · rw [if_neg h3, visS_cons]
      have : ¬ (i, s).1 = j := by show ¬ i = j; omega
      rw [if_neg this]
      obtain ⟨b1, b2⟩ := G.good.kids i hi _ (hlt i hi h3 _ (Nat.mod_lt s (hrad i hi h3)))
      rw [vis_lt G hlt hrad (f := f) (by omega) (by omega)]
theorem vis_root {φ : Nat → Nat} {D : Dec} (G : GoodK g) (hlt : ∀ i, i < g.nodes.length → (nodeAt g i).kind ≠ 3 → ∀ d, d < (decAt D (nodeAt g i)).rad (nodeAt g i) → (decAt D (nodeAt g i)).chs (nodeAt g i) d < (nodeAt g i).next.length) (hrad : ∀ i, i < g.nodes.length → (nodeAt g i).kind ≠ 3 → 0 < (decAt D (nodeAt g i)).rad (nodeAt g i)) {f s : Nat} (hN : 0 < g.nodes.length) : visS φ 0 (trL g D (f + 1) 0 s) = φ s := by
  simp only [trL]
  by_cases h3 : (nodeAt g 0).kind = 3
  · rw [if_pos h3, visS_cons, if_pos rfl]
    rfl
  · rw [if_neg h3, visS_cons, if_pos rfl]
    obtain ⟨b1, b2⟩ := G.good.kids 0 hN _ (hlt 0 hN h3 _ (Nat.mod_lt s (hrad 0 hN h3)))
    rw [vis_lt G hlt hrad (f := f) (by omega) (by omega)]
    rfl
/-- the sum over all seeds of what the visits are worth -/
theorem mass_sum (G : GoodK g) (T : GoodT g b L) {pr W : Nat → Nat} (P : ProdM (radM b) g pr) (M : MassW g L W) {z : Nat} (hz : ∀ j, j < g.nodes.length → pr j ∣ z) : ∀ {j : Nat}, j < g.nodes.length → ∀ φ : Nat → Nat, sumN z (fun s => visS φ j (trL g (decS b v L) g.nodes.length 0 s)) = sumN (z / pr j) φ * W j := by
  have hlt : ∀ i, i < g.nodes.length → (nodeAt g i).kind ≠ 3 → ∀ d, d < (decAt (decS b v L) (nodeAt g i)).rad (nodeAt g i) → (decAt (decS b v L) (nodeAt g i)).chs (nodeAt g i) d < (nodeAt g i).next.length := fun i hi h3 d hd => by
    obtain ⟨f1, f2, _, _, _, _, f7⟩ := dec_facts (v := v) G T hi h3
    rw [f2]
    exact f7 d (by rwa [f1] at hd)
  have hrad : ∀ i, i < g.nodes.length → (nodeAt g i).kind ≠ 3 → 0 < (decAt (decS b v L) (nodeAt g i)).rad (nodeAt g i) := fun i hi h3 => by
    obtain ⟨f1, _, _, f4, _⟩ := dec_facts (v := v) G T hi h3
    rwa [f1]
  have hN := G.good.n1
  intro j
  induction j using Nat.strongRecOn with
  | ind j ih =>
    intro hj φ
    rcases Nat.eq_zero_or_pos j with h0 | h0
    · subst h0
      rw [P.zero, M.zero, Nat.div_one, Nat.mul_one]
      obtain ⟨f, hf⟩ : ∃ f, g.nodes.length = f + 1 := ⟨g.nodes.length - 1, by omega⟩
      refine sumN_congr fun s _ => ?_
      rw [hf]
      exact vis_root G hlt hrad (by omega)
    · obtain ⟨q, k, hq, hk, he⟩ := parent_of G.good h0 hj
      have hqN : q < g.nodes.length := by omega
      have h3 : (nodeAt g q).kind ≠ 3 := fun h => by rw [G.fin q hqN h] at hk; exact absurd hk (Nat.not_lt_zero _)
      obtain ⟨f1, f2, f3, f4, f5, f6, f7⟩ := dec_facts (v := v) G T hqN h3
      have ej : ((nodeAt g q).next.getD k 0).toNat = j := by omega
      have epr := P.kid q hqN k hk
      have eW := M.kid q hqN k hk
      rw [ej] at epr eW
      have hs := ih q hq hqN fun r => if (decAt (decS b v L) (nodeAt g q)).chs (nodeAt g q) (r % (decAt (decS b v L) (nodeAt g q)).rad (nodeAt g q)) = k then φ (r / (decAt (decS b v L) (nodeAt g q)).rad (nodeAt g q)) else 0
      have h1 : sumN z (fun s => visS φ j (trL g (decS b v L) g.nodes.length 0 s)) = sumN z (fun s => visS (fun r => if (decAt (decS b v L) (nodeAt g q)).chs (nodeAt g q) (r % (decAt (decS b v L) (nodeAt g q)).rad (nodeAt g q)) = k then φ (r / (decAt (decS b v L) (nodeAt g q)).rad (nodeAt g q)) else 0) q (trL g (decS b v L) g.nodes.length 0 s)) := by
        refine sumN_congr fun s _ => ?_
        have := vis_step (D := decS b v L) G hqN hk hlt hrad φ (f := g.nodes.length) (i := 0) (s := s) hN (by omega)
        rw [ej, if_neg (by omega)] at this
        exact this
      rw [h1, hs, eW]
      obtain ⟨m, hm⟩ := hz j hj
      have hpq : 0 < pr q := P.pos (radM_bd T.b2) G hqN
      have hpj : 0 < pr j := P.pos (radM_bd T.b2) G hj
      have d1 : z / pr j = m := by rw [hm, Nat.mul_div_cancel_left _ hpj]
      have d2 : z / pr q = m * wM (radM b) g q := by rw [hm, epr, Nat.mul_assoc, Nat.mul_div_cancel_left _ hpq, Nat.mul_comm]
      rw [d1, d2, sumN_blocks, f1]
      have key : sumN m (fun u => sumN (wM (radM b) g q) (fun d => if (decAt (decS b v L) (nodeAt g q)).chs (nodeAt g q) ((u * wM (radM b) g q + d) % wM (radM b) g q) = k then φ ((u * wM (radM b) g q + d) / wM (radM b) g q) else 0)) = sumN m (fun u => φ u * ((wL g L q).getD k 0).toNat) := by
        refine sumN_congr fun u _ => ?_
        have hpc := pick_count (l := wL g L q) (k := k) f5
        rw [f3, Int.toNat_natCast] at hpc
        rw [← hpc, Nat.mul_comm (φ u), ← sumN_mul]
        refine sumN_congr fun d hd => ?_
        have m1 : (u * wM (radM b) g q + d) % wM (radM b) g q = d := by rw [Nat.mul_comm, Nat.mul_add_mod, Nat.mod_eq_of_lt hd]
        have m2 : (u * wM (radM b) g q + d) / wM (radM b) g q = u := by rw [Nat.mul_comm, Nat.mul_add_div f4, Nat.div_eq_of_lt hd, Nat.add_zero]
        rw [m1, m2, f2]
        by_cases e : pickN (wL g L q) (d : Int) = k
        · rw [if_pos e, if_pos ⟨e, by omega⟩, Nat.one_mul]
        · rw [if_neg e, if_neg (fun h => e h.1), Nat.zero_mul]
      rw [key, sumN_mul, Nat.mul_assoc, Nat.mul_comm (((wL g L q).getD k 0).toNat)]
end
end Go.Ev.Gl

namespace Go.Ev.Gl
variable {fns : T AFn}

/-! ## Small games have a spread, plain -/
def cntL (j : Nat) : List Int → Nat
  | [] => 0
  | x :: l => (if x = (j : Int) then 1 else 0) + cntL j l
theorem cntL_app {j : Nat} : ∀ {l m : List Int}, cntL j (l ++ m) = cntL j l + cntL j m
  | [], m => by show _ = 0 + _; rw [Nat.zero_add]; rfl
  | x :: l, m => by
    show _ + cntL j (l ++ m) = _ + cntL j l + cntL j m
    rw [cntL_app (l := l), Nat.add_assoc]
theorem cnt_vis {j : Nat} : ∀ {l : List (Nat × Nat)}, cntL j (l.map fun x => (x.1 : Int)) = visS (fun _ => 1) j l
  | [] => rfl
  | x :: l => by
    rw [visS_cons, List.map_cons, ← cnt_vis (l := l)]
    show (if (x.1 : Int) = (j : Int) then 1 else 0) + _ = _
    by_cases e : x.1 = j
    · rw [if_pos e, if_pos (by omega)]
    · rw [if_neg e, if_neg (by omega)]
section
variable {g : PGame} {b : Int} {L : List (List Int)} {pr W : Nat → Nat} {M : Nat}
/-- how many of the first seeds visit a node -/
def fndN (g : PGame) (b : Int) (L : List (List Int)) (j s : Nat) : Nat := sumN s fun u => cntL j (tabL g b L ((u : Nat) : Int))
theorem fnd_all (G : GoodK g) (T : GoodT g b L) (P : ProdM (radM b) g pr) (Mw : MassW g L W) {z : Nat} (hz : ∀ j, j < g.nodes.length → pr j ∣ z) {j : Nat} (hj : j < g.nodes.length) : fndN g b L j z = z / pr j * W j := by
  have h := mass_sum (v := .nilsl) G T P Mw hz hj fun _ => 1
  rw [sumN_one] at h
  rw [← h]
  unfold fndN
  refine sumN_congr fun u _ => ?_
  unfold tabL
  rw [Int.toNat_natCast, path_tr, cnt_vis]
theorem spF_dvd (P : ProdM M g pr) (hM : 1 ≤ M ∧ M ≤ 1073741824) (G : GoodK g) : ∀ {n z : Nat}, n ≤ g.nodes.length → spF M g pr n = some z → ∀ j, j < n → (nodeAt g j).kind = 3 → pr j ∣ z
  | 0, _, _, _, j, hj, _ => absurd hj (Nat.not_lt_zero _)
  | n + 1, z, hn, h, j, hj, hk => by
    rw [spF_succ] at h
    cases h1 : spF M g pr n with
    | none => rw [h1] at h; cases h
    | some y =>
      have ih := spF_dvd P hM G (n := n) (z := y) (by omega) h1
      rw [h1] at h
      have h : (if (nodeAt g n).kind = 3 then lcmO y (pr n) else if 1000000000000000 < pr n * wM M g n then none else some y) = some z := h
      split at h
      · unfold lcmO at h
        split at h
        · cases h
        · cases h
          have hgy := Nat.gcd_dvd_left y (pr n)
          have hgp := Nat.gcd_dvd_right y (pr n)
          by_cases e : j = n
          · subst e; exact Nat.dvd_mul_left _ _
          · refine Nat.dvd_trans (ih j (by omega) hk) ?_
            obtain ⟨c, hc⟩ := hgp
            refine ⟨c, ?_⟩
            generalize hG : Nat.gcd y (pr n) = d at *
            rw [hc, ← Nat.mul_assoc, Nat.div_mul_cancel hgy]
      · split at h
        · cases h
        · cases h
          rename_i h3 _
          by_cases e : j = n
          · subst e; exact absurd hk h3
          · exact ih j (by omega) hk
/-- with all ends all nodes' products divide -/
theorem all_dvd (P : ProdM M g pr) (G : GoodK g) {z : Nat} (h : ∀ j, j < g.nodes.length → (nodeAt g j).kind = 3 → pr j ∣ z) : ∀ {n j : Nat}, j < g.nodes.length → g.nodes.length ≤ n + j → pr j ∣ z ∧ ((nodeAt g j).kind ≠ 3 → pr j * wM M g j ∣ z)
  | 0, j, hj, hn => by omega
  | n + 1, j, hj, hn => by
    by_cases h3 : (nodeAt g j).kind = 3
    · exact ⟨h j hj h3, fun e => absurd h3 e⟩
    · have hk : 0 < (nodeAt g j).next.length := by
        rcases G.knd j hj with hk | hk | hk
        · exact (G.chn j hj hk).2.1
        · exact (G.mov j hj hk).1
        · exact absurd hk h3
      obtain ⟨b1, b2⟩ := G.good.kids j hj 0 hk
      have := (all_dvd P G h (n := n) (j := ((nodeAt g j).next.getD 0 0).toNat) (by omega) (by omega)).1
      rw [P.kid j hj 0 hk] at this
      exact ⟨Nat.dvd_trans (Nat.dvd_mul_right _ _) this, fun _ => this⟩
/-- the product of all radices before a node -/
def allR (M : Nat) (g : PGame) : Nat → Nat
  | 0 => 1
  | n + 1 => allR M g n * wM M g n
theorem allR_mono {n : Nat} : ∀ {m : Nat}, n ≤ m → allR M g n ∣ allR M g m
  | 0, h => by
    obtain rfl : n = 0 := by omega
    exact Nat.dvd_refl _
  | m + 1, h => by
    by_cases e : n = m + 1
    · rw [e]; exact Nat.dvd_refl _
    · exact Nat.dvd_trans (allR_mono (n := n) (m := m) (by omega)) (Nat.dvd_mul_right _ _)
theorem pr_allR (P : ProdM M g pr) (G : GoodK g) : ∀ {j : Nat}, j < g.nodes.length → pr j ∣ allR M g j := by
  intro j
  induction j using Nat.strongRecOn with
  | ind j ih =>
    intro hj
    rcases Nat.eq_zero_or_pos j with h0 | h0
    · subst h0; rw [P.zero]; exact Nat.one_dvd _
    · obtain ⟨q, k, hq, hk, he⟩ := parent_of G.good h0 hj
      have := P.kid q (by omega) k hk
      rw [he, Int.toNat_natCast] at this
      rw [this]
      exact Nat.dvd_trans (Nat.mul_dvd_mul_right (ih q hq (by omega)) _) (allR_mono (n := q + 1) hq)
theorem allR_le {B : Nat} (hB : 1 ≤ B) (h : ∀ i, i < g.nodes.length → wM M g i ≤ B) : ∀ {n : Nat}, n ≤ g.nodes.length → allR M g n ≤ B ^ n
  | 0, _ => Nat.le_refl _
  | n + 1, hn => by
    show allR M g n * wM M g n ≤ B ^ n * B
    exact Nat.mul_le_mul (allR_le hB h (by omega)) (h n (by omega))
theorem lcm_dvd' {z p Q : Nat} (h1 : z ∣ Q) (h2 : p ∣ Q) : z / Nat.gcd z p * p ∣ Q := by
  have h := Nat.lcm_dvd h1 h2
  unfold Nat.lcm at h
  rwa [Nat.div_mul_right_comm (Nat.gcd_dvd_left z p)]
theorem spF_fits (P : ProdM M g pr) (hM : 1 ≤ M ∧ M ≤ 1073741824) (G : GoodK g) {Q : Nat} (hQ : allR M g g.nodes.length ∣ Q) (h0 : 0 < Q) (hle : Q ≤ 1000000000000000) : ∀ {n : Nat}, n ≤ g.nodes.length → ∃ z, spF M g pr n = some z ∧ z ∣ Q
  | 0, _ => ⟨1, rfl, Nat.one_dvd _⟩
  | n + 1, hn => by
    obtain ⟨y, h1, h2⟩ := spF_fits P hM G hQ h0 hle (n := n) (by omega)
    have hd : pr n ∣ Q := Nat.dvd_trans (pr_allR P G (by omega)) (Nat.dvd_trans (allR_mono (by omega)) hQ)
    have hd2 : pr n * wM M g n ∣ Q := Nat.dvd_trans (Nat.mul_dvd_mul_right (pr_allR P G (by omega)) _) (Nat.dvd_trans (allR_mono (n := n + 1) (by omega)) hQ)
    rw [spF_succ, h1]
    show ∃ z, (if (nodeAt g n).kind = 3 then lcmO y (pr n) else if 1000000000000000 < pr n * wM M g n then none else some y) = some z ∧ z ∣ Q
    split
    · have hl := lcm_dvd' h2 hd
      have := Nat.le_of_dvd h0 hl
      refine ⟨y / Nat.gcd y (pr n) * pr n, ?_, hl⟩
      unfold lcmO
      rw [if_neg (by omega)]
    · have := Nat.le_of_dvd h0 hd2
      rw [if_neg (by omega)]
      exact ⟨y, rfl, h2⟩
theorem allR_pos (hM : 1 ≤ M ∧ M ≤ 1073741824) (G : GoodK g) : ∀ {n : Nat}, n ≤ g.nodes.length → 0 < allR M g n
  | 0, _ => Nat.one_pos
  | n + 1, hn => Nat.mul_pos (allR_pos hM G (n := n) (by omega)) (wM_bd hM G (by omega)).1
/-- a small game has a spread, and all products divide it -/
theorem small_spread (G : GoodK g) (hM : 1 ≤ M ∧ M ≤ 9) (P : ProdM M g pr) (hn : g.nodes.length ≤ 15) (hw : ∀ i, i < g.nodes.length → (nodeAt g i).kind = 1 → (nodeAt g i).weights.sum ≤ 9) : ∃ z : Nat, spF M g pr g.nodes.length = some z ∧ 0 < z ∧ z ≤ 1000000000000000 ∧ ∀ j, j < g.nodes.length → pr j ∣ z ∧ ((nodeAt g j).kind ≠ 3 → pr j * wM M g j ∣ z) := by
  have hM' : 1 ≤ M ∧ M ≤ 1073741824 := by omega
  have h9 : ∀ i, i < g.nodes.length → wM M g i ≤ 9 := fun i hi => by
    unfold wM
    split
    · rename_i h; have := hw i hi h; omega
    · split <;> omega
  have hle : allR M g g.nodes.length ≤ 1000000000000000 := by
    refine Nat.le_trans (allR_le (by decide) h9 (Nat.le_refl _)) (Nat.le_trans (Nat.pow_le_pow_right (by decide) hn) ?_)
    decide
  obtain ⟨z, h1, h2⟩ := spF_fits P hM' G (Nat.dvd_refl _) (allR_pos hM' G (Nat.le_refl _)) hle (Nat.le_refl _)
  obtain ⟨a, c, _⟩ := spF_some P hM' G (Nat.le_refl _) h1
  have hd := spF_dvd P hM' G (Nat.le_refl _) h1
  exact ⟨z, h1, a, c, fun j hj => all_dvd P G hd (n := g.nodes.length) hj (by omega)⟩
end
theorem sum_le3 : ∀ {l : List Int}, (∀ w ∈ l, 1 ≤ w ∧ w ≤ 3) → l.sum ≤ 3 * ((l.length : Nat) : Int)
  | [], _ => by simp
  | x :: l, h => by
    have h1 := h x (List.mem_cons_self ..)
    have h2 := sum_le3 fun y hy => h y (List.mem_cons_of_mem _ hy)
    rw [List.sum_cons, List.length_cons]
    omega
theorem nodeOk_sum {ps : Int} {I : List PInfo} {x : PNode} (h : NodeOk ps I x) (hk : x.kind = 1) : x.weights.sum ≤ 9 := by
  rcases h with h | h | h
  · have := h.kind; omega
  · have := sum_le3 h.wts
    have := h.n2
    have := h.len
    omega
  · have := h.kind; omega
end Go.Ev.Gl

namespace Go.Ev.Gl
variable {fns : T AFn}

/-! ## Drawn tables fit, plain -/
theorem firstN_ne {l : List PNode} {i : Nat} : ∀ {s : Nat}, firstN l s i ≠ 0 → ∃ x ∈ l, x.kind = 2 ∧ x.info = (i : Int) := by
  induction l with
  | nil => intro s h; exact absurd rfl h
  | cons x l ih =>
    intro s h
    unfold firstN at h
    by_cases e : x.kind = 2 ∧ x.info = (i : Int)
    · exact ⟨x, List.mem_cons_self .., e⟩
    · rw [if_neg e] at h
      obtain ⟨y, hy, hh⟩ := ih h
      exact ⟨y, List.mem_cons_of_mem _ hy, hh⟩
theorem info_used {g : PGame} (h : formE g = 0) {i : Nat} (hi : i < g.infos.length) : ∃ x ∈ g.nodes, x.kind = 2 ∧ x.info = (i : Int) := by
  unfold formE at h
  split at h
  · cases h
  split at h
  · rename_i h1; exact absurd h h1
  split at h
  · cases h
  split at h
  · cases h
  split at h
  · cases h
  unfold setsE at h
  split at h
  · cases h
  split at h
  · cases h
  rename_i h0
  refine firstN_ne (s := 0) fun e => h0 ?_
  unfold firstsL
  exact List.mem_map.2 ⟨i, List.mem_range.2 hi, by rw [e]; rfl⟩
theorem acts_bd {g : PGame} (h : formE g = 0) (hN : ∀ x ∈ g.nodes, NodeOk g.players g.infos x) {i : Nat} (hi : i < g.infos.length) : 1 ≤ (infoAt g (i : Int)).actions ∧ (infoAt g (i : Int)).actions ≤ 3 := by
  obtain ⟨x, hx, hk, he⟩ := info_used h hi
  rcases hN x hx with h1 | h1 | h1
  · have := h1.kind; omega
  · have := h1.kind; omega
  · have h2 := h1.at_
    rw [he, Int.toNat_natCast] at h2
    have h3 : infoAt g (i : Int) = ⟨x.player, ((x.next.length : Nat) : Int)⟩ := by
      unfold infoAt
      rw [Int.toNat_natCast, List.getD_eq_getElem?_getD, h2]
      rfl
    rw [h3]
    have := h1.n1
    have := h1.n2
    exact ⟨by show 1 ≤ ((x.next.length : Nat) : Int); omega, by show ((x.next.length : Nat) : Int) ≤ 3; omega⟩
structure RowOk (M n : Nat) (l : List Int) : Prop where
  len : l.length = n
  pos : ∀ x ∈ l, 0 ≤ x
  sum : l.sum = (M : Int)
theorem sum_set : ∀ {l : List Int} {k : Nat} {w : Int}, k < l.length → (l.set k (l.getD k 0 + w)).sum = l.sum + w
  | [], k, _, h => absurd h (Nat.not_lt_zero _)
  | x :: l, 0, w, _ => by
    show (List.sum ((x + w) :: l)) = _
    rw [List.sum_cons, List.sum_cons]
    omega
  | x :: l, k + 1, w, h => by
    show (List.sum (x :: l.set k (l.getD k 0 + w))) = _
    rw [List.sum_cons, List.sum_cons, sum_set (by simpa using h)]
    omega
theorem getD_mem {l : List Int} {k : Nat} (h : k < l.length) : l.getD k 0 ∈ l := by
  rw [List.getD_eq_getElem?_getD, List.getElem?_eq_getElem h]
  exact List.getElem_mem h
theorem RowOk.inc {M n : Nat} {l : List Int} (h : RowOk M n l) {k : Nat} (hk : k < n) : RowOk (M + 1) n (l.set k (l.getD k 0 + 1)) := by
  refine ⟨by rw [List.length_set]; exact h.len, fun x hx => ?_, ?_⟩
  · rcases List.mem_or_eq_of_mem_set hx with h1 | rfl
    · exact h.pos x h1
    · have := h.pos _ (getD_mem (l := l) (k := k) (by rw [h.len]; exact hk))
      omega
  · rw [sum_set (by rw [h.len]; exact hk), h.sum]
    omega
theorem sum_nn : ∀ {l : List Int}, (∀ x ∈ l, 0 ≤ x) → 0 ≤ l.sum
  | [], _ => by simp
  | x :: l, h => by
    have h1 := h x (List.mem_cons_self ..)
    have h2 := sum_nn fun y hy => h y (List.mem_cons_of_mem _ hy)
    rw [List.sum_cons]
    omega
theorem le_sumNN : ∀ {l : List Int}, (∀ x ∈ l, 0 ≤ x) → ∀ x ∈ l, x ≤ l.sum
  | [], _, x, hx => by cases hx
  | y :: l, h, x, hx => by
    have h1 := h y (List.mem_cons_self ..)
    have h2 := sum_nn fun z hz => h z (List.mem_cons_of_mem _ hz)
    rw [List.sum_cons]
    rcases List.mem_cons.1 hx with rfl | hx
    · omega
    · have := le_sumNN (fun z hz => h z (List.mem_cons_of_mem _ hz)) x hx
      omega
theorem RowOk.sh {M n : Nat} {l : List Int} (h : RowOk M n l) (h1 : 1 ≤ n) (h2 : n ≤ 10) : shE M l = 0 := by
  unfold shE
  have hl := h.len
  rw [if_neg (by omega), if_neg, if_neg (by rw [h.sum]; exact fun h => h rfl)]
  rintro ⟨x, hx, hh⟩
  have := h.pos x hx
  have h3 := le_sumNN h.pos x hx
  rw [h.sum] at h3
  omega
theorem shsE_ok {M : Nat} : ∀ {L : List (List Int)}, (∀ l ∈ L, shE M l = 0) → shsE M L = 0
  | [], _ => rfl
  | l :: L, h => by
    have h1 := h l (List.mem_cons_self ..)
    show (if shE M l ≠ 0 then shE M l else shsE M L) = 0
    rw [if_neg (fun e => e h1)]
    exact shsE_ok fun x hx => h x (List.mem_cons_of_mem _ hx)
theorem fit_ok {g : PGame} {b : Int} {L : List (List Int)} (h : formE g = 0) (hN : ∀ x ∈ g.nodes, NodeOk g.players g.infos x) (hb : 1 ≤ b ∧ b ≤ 30) (hi : g.infos.length ≤ 200) (hl : L.length = g.infos.length) (hr : ∀ j, j < L.length → RowOk (radM b) (infoAt g (j : Int)).actions.toNat (L.getD j [])) : fitE g b L = 0 := by
  have ha := fun {j : Nat} (hj : j < L.length) => acts_bd h hN (i := j) (by omega)
  refine fitE_e h ?_ hl fun j hj => ?_
  · unfold tabE
    rw [if_neg (by omega), if_neg (by omega)]
    refine shsE_ok fun l hm => ?_
    obtain ⟨j, hj, rfl⟩ := List.mem_iff_getElem.1 hm
    have := hr j hj
    rw [List.getD_eq_getElem?_getD, List.getElem?_eq_getElem hj] at this
    have h1 := ha hj
    exact RowOk.sh this (by omega) (by omega)
  · have := (hr j hj).len
    have h1 := ha hj
    omega
theorem infos_le {g : PGame} (h : formE g = 0) : g.infos.length ≤ 200 := by
  unfold formE at h
  split at h
  · cases h
  rename_i hb
  unfold badG at hb
  omega
end Go.Ev.Gl

namespace Go.Ev.Gl
variable {fns : T AFn}

/-! ## The drawn table -/
noncomputable def incC : AC := (.block 2 (.loop (.seq (.seq (.reg [⟨(some 53),(.q (.mv (.t 12))),none,0⟩,
⟨(some 54),(.q (.faddr 0 (.t 9))),none,0⟩,
⟨(some 55),(.q (.ld false 1 (.t 54))),none,0⟩,
⟨(some 56),(.q (.bin .shl (.p .int) (.c (.int .i64 (.ofNat 1))) (.t 55))),none,0⟩,
⟨(some 57),(.q (.bin .lss (.p .int) (.t 53) (.t 56))),none,0⟩])
(.cond (.t 57) .skip (.exit 2)))
(.seq (.block 3 (.reg [⟨(some 60),(.q (.mv (.t 11))),none,0⟩,
⟨(some 61),(.q (.mv (.t 7))),none,0⟩,
⟨(some 62),(.q (.mv (.t 11))),none,0⟩,
⟨(some 63),(.q (.lenSl (.t 62))),none,0⟩,
⟨(some 64),(.x (.call (.c (.fn 38 [] [])) [(.t 61),(.t 63)])),none,0⟩,
⟨(some 65),(.q (.iaddr (.slice 1) (.t 60) (.t 64))),none,0⟩,
⟨(some 66),(.q (.ld false 1 (.t 65))),none,0⟩,
⟨(some 67),(.q (.bin .add (.p .int) (.t 66) (.c (.int .i64 (.ofNat 1))))),none,0⟩,
⟨(some 68),(.q (.iaddr (.slice 1) (.t 60) (.t 64))),none,0⟩,
⟨none,(.x (.st 1 (.t 68) (.t 67))),none,0⟩]))
(.reg [⟨(some 58),(.q (.mv (.t 12))),none,0⟩,
⟨(some 59),(.q (.bin .add (.p .int) (.t 58) (.c (.int .i64 (.ofNat 1))))),none,0⟩,
⟨(some 12),(.q (.mv (.t 59))),none,0⟩])))))
def IncI (X0 : St) (db gb tb rb n : Nat) (bits i0 : Int) (tv : AV) (dl : List Int) (k : Nat) (A : Act') (X : St) : Prop := A.inr = false ∧ X0.nx ≤ X.nx ∧ (∀ c, c < X0.nx → c ≠ db → c ≠ rb → X.h.get c = X0.h.get c) ∧ DrwB X db tv dl ∧ ∃ (i : Nat) (l : List Int), i + k = radM bits ∧ RowOk i n l ∧ X.h.get rb = some (.cells (cells64 l) false 0) ∧ tmpV 7 A.F = .ptr db 0 ∧ tmpV 8 A.F = .ptr gb 0 ∧ tmpV 9 A.F = .ptr tb 0 ∧ tmpV 10 A.F = .int .i64 i0 ∧ tmpV 11 A.F = .sl rb 0 n n false ∧ tmpV 12 A.F = .int .i64 (i : Int)
set_option maxHeartbeats 4000000 in
theorem inc_ok {X0 : St} {F : Fr} {db gb tb rb n : Nat} {bits i0 : Int} {tv pv : AV} {dl l0 : List Int} (H : Has fns) (hb : 1 ≤ bits ∧ bits ≤ 30) (hn : 1 ≤ n ∧ n ≤ 1000) (gT : X0.h.get tb = some (.cells [.int .i64 bits, pv] false 0)) (lt : tb < X0.nx) (lr : rb < X0.nx) (h1 : tb ≠ db) (h2 : tb ≠ rb) (h3 : db ≠ rb) (h4 : blkOf tv ≠ some rb) (hd : DrwB X0 db tv dl) (h0 : RowOk 0 n l0) (gR : X0.h.get rb = some (.cells (cells64 l0) false 0))
    (p7 : tmpV 7 F = .ptr db 0) (p8 : tmpV 8 F = .ptr gb 0) (p9 : tmpV 9 F = .ptr tb 0) (p10 : tmpV 10 F = .int .i64 i0) (p11 : tmpV 11 F = .sl rb 0 n n false) (p12 : tmpV 12 F = .int .i64 0) : wpc fns incC ⟨F, false⟩ X0 fun o A X => o = .normal ∧ IncI X0 db gb tb rb n bits i0 tv dl 0 A X := by
  have hM := radM_bd hb.2
  have hsh := bin_shl1 (.p .int) (b := bits) (by omega) hb.2
  unfold incC
  refine wpc_block (wpc_loop (IncI X0 db gb tb rb n bits i0 tv dl) ?_ (radM bits) _ _ ⟨rfl, Nat.le_refl _, fun _ _ _ _ => rfl, hd, 0, l0, by omega, h0, gR, p7, p8, p9, p10, p11, p12⟩)
  rintro k ⟨F, inr⟩ X ⟨q0, nX, kX, dX, i, l, hik, hl, gX, p7, p8, p9, p10, p11, p12⟩
  simp only at q0 p7 p8 p9 p10 p11 p12
  subst q0
  have tX := (kX tb lt h1 h2).trans gT
  refine wss ?_
  simp only [↓sU, sD, reduceEqDiff, ↓reduceIte, reduceAdd, p9, p12, evQ_faddr, faddr_ptr, lg2_0 tX, hsh]
  by_cases hlt : i < radM bits
  rotate_left
  · refine wpc_non (by simp only [↓sU, sD, reduceEqDiff, ↓reduceIte, reduceAdd, decide_eq_false (show ¬ (i : Int) < ((radM bits : Nat) : Int) by omega)]) (wpc_exit ?_)
    simp only [↓sU, sD, reduceEqDiff, ↓reduceIte, reduceAdd]
    obtain rfl : k = 0 := by omega
    exact ⟨rfl, nX, kX, dX, i, l, hik, hl, gX, by simp only [↓sU, sD, reduceEqDiff, ↓reduceIte, reduceAdd, p7], by simp only [↓sU, sD, reduceEqDiff, ↓reduceIte, reduceAdd, p8], by simp only [↓sU, sD, reduceEqDiff, ↓reduceIte, reduceAdd, p9], by simp only [↓sU, sD, reduceEqDiff, ↓reduceIte, reduceAdd, p10], by simp only [↓sU, sD, reduceEqDiff, ↓reduceIte, reduceAdd, p11], by simp only [↓sU, sD, reduceEqDiff, ↓reduceIte, reduceAdd, p12]⟩
  refine wpc_yes (by simp only [↓sU, sD, reduceEqDiff, ↓reduceIte, reduceAdd, decide_eq_true (show (i : Int) < ((radM bits : Nat) : Int) by omega)]) (wpc_skip ?_)
  try simp only [↓sU, sD, reduceEqDiff, ↓reduceIte, reduceAdd]
  have w1 : IntKind.i64.wrap ((i : Int) + 1) = ((i + 1 : Nat) : Int) := by rw [wrap_i64 (by omega) (by omega)]; omega
  have e0 : lenSlV (.sl rb 0 n n false) = some (.int .i64 (n : Int)) := rfl
  refine wpc_seq (wpc_block (wpc_reg ?_))
  simp only [↓sU, sD, reduceEqDiff, ↓reduceIte, reduceAdd, p7, p11, e0]
  refine wpo_call ?_
  simp only [↓sU, sD, reduceEqDiff, ↓reduceIte, reduceAdd]
  refine wpf_mono (draw_spec H dX (n := (n : Int)) (by omega) (by omega)) ?_
  rintro _ Y ⟨bY, dY, y, rfl, hy1, hy2⟩
  obtain ⟨u, rfl⟩ : ∃ u : Nat, y = (u : Int) := ⟨y.toNat, by omega⟩
  have hu : u < n := by omega
  have hia := row_ia (b := rb) (o := false) hu
  have lrX : rb < X.nx := by omega
  have gY := (bY.2 rb lrX h3.symm).trans gX
  have hll := hl.len
  have hld := ld64 gY (p := u) (by omega)
  have hb0 := hl.pos _ (getD_mem (l := l) (k := u) (by omega))
  have hb1 := le_sumNN hl.pos _ (getD_mem (l := l) (k := u) (by omega))
  rw [hl.sum] at hb1
  have w2 : IntKind.i64.wrap (l.getD u 0 + 1) = l.getD u 0 + 1 := wrap_i64 (by omega) (by omega)
  simp only [↓sU, sD, reduceEqDiff, ↓reduceIte, reduceAdd, natOf_cast, hia, hld, w2]
  refine wpo_x (v := .undef) (S1 := ⟨Y.h.set rb (some (.cells (cells64 (l.set u (l.getD u 0 + 1))) false 0)), Y.nx⟩) (fun call => by simp only [↓sU, sD, reduceEqDiff, ↓reduceIte, reduceAdd, evX_st, cells_int]; exact st64 gY (by omega)) ?_
  simp only [↓sU, sD, reduceEqDiff, ↓reduceIte, reduceAdd]
  refine wpc_reg ?_
  simp only [↓sU, sD, reduceEqDiff, ↓reduceIte, reduceAdd, p12, w1]
  have nY := bY.1
  have kZ : ∀ c, c ≠ rb → (Y.h.set rb (some (.cells (cells64 (l.set u (l.getD u 0 + 1))) false 0))).get c = Y.h.get c := fun c hc => by rw [T.get_set, if_neg hc]
  refine ⟨k - 1, by omega, rfl, by show X0.nx ≤ Y.nx; omega, fun c hc h5 h6 => (kZ c h6).trans ((bY.2 c (by omega) h5).trans (kX c hc h5 h6)), dY.move (Nat.le_refl _) (kZ db h3) fun c hc => kZ c fun e => h4 (by rw [hc, e]), i + 1, _, by omega, hl.inc hu, by simp only; rw [T.get_set, if_pos rfl], by simp only [↓sU, sD, reduceEqDiff, ↓reduceIte, reduceAdd, p7], by simp only [↓sU, sD, reduceEqDiff, ↓reduceIte, reduceAdd, p8], by simp only [↓sU, sD, reduceEqDiff, ↓reduceIte, reduceAdd, p9], by simp only [↓sU, sD, reduceEqDiff, ↓reduceIte, reduceAdd, p10], by simp only [↓sU, sD, reduceEqDiff, ↓reduceIte, reduceAdd, p11], by simp only [↓sU, sD, reduceEqDiff, ↓reduceIte, reduceAdd]⟩
noncomputable def rwsC : AC := (.block 0 (.loop (.seq (.seq (.reg [⟨(some 39),(.q (.mv (.t 10))),none,0⟩,
⟨(some 40),(.q (.faddr 2 (.t 8))),none,0⟩,
⟨(some 41),(.q (.ld false 1 (.t 40))),none,0⟩,
⟨(some 42),(.q (.lenSl (.t 41))),none,0⟩,
⟨(some 43),(.q (.bin .lss (.p .int) (.t 39) (.t 42))),none,0⟩])
(.cond (.t 43) .skip (.exit 0)))
(.seq (.block 1 (.seq (.reg [⟨(some 46),(.q (.faddr 2 (.t 8))),none,0⟩,
⟨(some 47),(.q (.ld false 1 (.t 46))),none,0⟩,
⟨(some 48),(.q (.mv (.t 10))),none,0⟩,
⟨(some 49),(.q (.iaddr (.slice 2) (.t 47) (.t 48))),none,0⟩,
⟨(some 50),(.q (.faddr 1 (.t 49))),none,0⟩,
⟨(some 51),(.q (.ld false 1 (.t 50))),none,0⟩,
⟨(some 52),(.a (.mkSlice 3 1 8 [(.int .i64 (.ofNat 0))] (.t 51) (.t 51))),none,0⟩,
⟨(some 11),(.q (.mv (.t 52))),none,0⟩])
(.seq (.seq (.reg [⟨(some 12),(.q (.mv (.c (.int .i64 (.ofNat 0))))),none,0⟩])
incC)
(.reg [⟨(some 69),(.q (.faddr 1 (.t 9))),none,0⟩,
⟨(some 70),(.q (.ld false 1 (.t 69))),none,0⟩,
⟨(some 71),(.q (.mv (.t 11))),none,0⟩,
⟨(some 72),(.a (.bslice 22 1 1 [.nilsl] [(0,(.t 71))])),none,0⟩,
⟨(some 73),(.x (.app 22 1 24 (.t 70) (.t 72))),none,0⟩,
⟨(some 74),(.q (.faddr 1 (.t 9))),none,0⟩,
⟨none,(.x (.st 1 (.t 74) (.t 73))),none,0⟩]))))
(.reg [⟨(some 44),(.q (.mv (.t 10))),none,0⟩,
⟨(some 45),(.q (.bin .add (.p .int) (.t 44) (.c (.int .i64 (.ofNat 1))))),none,0⟩,
⟨(some 10),(.q (.mv (.t 45))),none,0⟩])))))
def RwsI (S0 : St) (db gb tb : Nat) (bits : Int) (tv : AV) (dl : List Int) (g : PGame) (k : Nat) (A : Act') (X : St) : Prop := A.inr = false ∧ S0.nx ≤ X.nx ∧ (∀ c, c < S0.nx → c ≠ db → c ≠ tb → X.h.get c = S0.h.get c) ∧ DrwB X db tv dl ∧ ∃ (i : Nat) (pv : AV) (cs : List AV) (L : List (List Int)), i + k = g.infos.length ∧ L.length = i ∧ (∀ j, j < i → RowOk (radM bits) (infoAt g (j : Int)).actions.toNat (L.getD j [])) ∧ X.h.get tb = some (.cells [.int .i64 bits, pv] false 0) ∧ GrW 1 S0 X pv i cs ∧ RowsB S0 X pv cs L ∧ tmpV 7 A.F = .ptr db 0 ∧ tmpV 8 A.F = .ptr gb 0 ∧ tmpV 9 A.F = .ptr tb 0 ∧ tmpV 10 A.F = .int .i64 (i : Int)
set_option maxHeartbeats 8000000 in
theorem rows_ok {S0 : St} {F : Fr} {db gb tb : Nat} {bits : Int} {tv nv iv : AV} {dl : List Int} {g : PGame} (H : Has fns) (hb : 1 ≤ bits ∧ bits ≤ 30) (gG : S0.h.get gb = some (.cells [.int .i64 g.players, nv, iv] false 0)) (gT : S0.h.get tb = some (.cells [.int .i64 bits, .nilsl] false 0)) (lg : gb < S0.nx) (lt : tb < S0.nx) (h1 : tb ≠ db) (h2 : gb ≠ db) (h3 : gb ≠ tb) (h4 : blkOf tv ≠ some tb) (hd : DrwB S0 db tv dl)
    (hinf : ∀ X' : St, S0.nx ≤ X'.nx → (∀ c, c < S0.nx → c ≠ db → c ≠ tb → X'.h.get c = S0.h.get c) → IsSlG 2 InfoE X' iv g.infos) (hact : ∀ i, i < g.infos.length → 1 ≤ (infoAt g (i : Int)).actions ∧ (infoAt g (i : Int)).actions ≤ 3) (hil : g.infos.length ≤ 200)
    (p7 : tmpV 7 F = .ptr db 0) (p8 : tmpV 8 F = .ptr gb 0) (p9 : tmpV 9 F = .ptr tb 0) (p10 : tmpV 10 F = .int .i64 0) : wpc fns rwsC ⟨F, false⟩ S0 fun o A X => o = .normal ∧ RwsI S0 db gb tb bits tv dl g 0 A X := by
  have ldb := hd.lt
  unfold rwsC
  refine wpc_block (wpc_loop (RwsI S0 db gb tb bits tv dl g) ?_ g.infos.length _ _ ⟨rfl, Nat.le_refl _, fun _ _ _ _ => rfl, hd, 0, .nilsl, [], [], by omega, rfl, fun j hj => absurd hj (Nat.not_lt_zero j), gT, .inl ⟨rfl, rfl, rfl⟩, ⟨rfl, fun j hj => absurd hj (Nat.not_lt_zero j)⟩, p7, p8, p9, p10⟩)
  rintro k ⟨F, inr⟩ X ⟨q0, nX, kX, dX, i, pv, cs, L, hik, hLl, hL, gX, hg, hR, p7, p8, p9, p10⟩
  simp only at q0 p7 p8 p9 p10
  subst q0
  have cX := (kX gb lg h2 h3).trans gG
  have iX := hinf X nX kX
  have ivl := IsSlG.len iX
  refine wss ?_
  simp only [↓sU, sD, reduceEqDiff, ↓reduceIte, reduceAdd, p8, p10, evQ_faddr, faddr_ptr, lg3_2 cX, ivl, Int.ofNat_eq_natCast]
  by_cases hlt : i < g.infos.length
  rotate_left
  · refine wpc_non (by simp only [↓sU, sD, reduceEqDiff, ↓reduceIte, reduceAdd, decide_eq_false (show ¬ (i : Int) < ((g.infos.length : Nat) : Int) by omega)]) (wpc_exit ?_)
    simp only [↓sU, sD, reduceEqDiff, ↓reduceIte, reduceAdd]
    obtain rfl : k = 0 := by omega
    exact ⟨rfl, nX, kX, dX, i, pv, cs, L, hik, hLl, hL, gX, hg, hR, by simp only [↓sU, sD, reduceEqDiff, ↓reduceIte, reduceAdd, p7], by simp only [↓sU, sD, reduceEqDiff, ↓reduceIte, reduceAdd, p8], by simp only [↓sU, sD, reduceEqDiff, ↓reduceIte, reduceAdd, p9], by simp only [↓sU, sD, reduceEqDiff, ↓reduceIte, reduceAdd, p10]⟩
  refine wpc_yes (by simp only [↓sU, sD, reduceEqDiff, ↓reduceIte, reduceAdd, decide_eq_true (show (i : Int) < ((g.infos.length : Nat) : Int) by omega)]) (wpc_skip ?_)
  try simp only [↓sU, sD, reduceEqDiff, ↓reduceIte, reduceAdd]
  have w1 : IntKind.i64.wrap ((i : Int) + 1) = ((i + 1 : Nat) : Int) := by rw [wrap_i64 (by omega) (by omega)]; omega
  obtain ⟨a1, a2⟩ := hact i hlt
  obtain ⟨n, hn⟩ : ∃ n : Nat, (infoAt g (i : Int)).actions = (n : Int) := ⟨(infoAt g (i : Int)).actions.toNat, by omega⟩
  obtain ⟨ei, bi, qi, hii, hbi, _, hei, _, hfi⟩ := IsSlG.at iX (by decide) (infoAt_some hlt)
  have hf1 := hfi 1 (.int .i64 (n : Int)) (by rw [hei, hn]; rfl)
  refine wpc_seq (wpc_block (wpc_seq (wpc_reg ?_)))
  simp only [↓stU, stD, reduceEqDiff, ↓reduceIte, reduceAdd, p8, p10, evQ_faddr, faddr_ptr, lg3_2 cX, natOf_cast, hii, hf1]
  refine wpo_al (evA_mk (n := n) (by simp only [↓stU, stD, reduceEqDiff, ↓reduceIte, reduceAdd, natOf_cast]) (by simp only [↓stU, stD, reduceEqDiff, ↓reduceIte, reduceAdd, natOf_cast]) (by unfold room; omega) (by unfold room; omega)) ?_
  intro X1 x1 n1 g1
  rw [zeros64] at g1
  try simp only [↓stU, stD, reduceEqDiff, ↓reduceIte, reduceAdd]
  refine wss ?_
  simp only [↓sU, sD, reduceEqDiff, ↓reduceIte, reduceAdd]
  have lbt := fun {c} (hc : blkOf tv = some c) => sl_low dX.il hc
  have d1 : DrwB X1 db tv dl := dX.move x1.1 (x1.2 _ dX.lt) fun c hc => x1.2 c (lbt hc)
  have t1 := (x1.2 tb (by omega)).trans gX
  have h00 : RowOk 0 n (List.replicate n 0) := ⟨List.length_replicate .., fun x hx => by rw [List.eq_of_mem_replicate hx]; exact Int.le_refl _, by simp⟩
  refine wpc_mono (inc_ok (X0 := X1) (db := db) (gb := gb) (tb := tb) (rb := X.nx) (n := n) (bits := bits) (i0 := (i : Int)) (pv := pv) H hb (by omega) t1 (by omega) (by omega) h1 (by omega) (by omega) (fun e => by have := lbt e; omega) d1 h00 g1 (by simp only [↓sU, sD, reduceEqDiff, ↓reduceIte, reduceAdd, p7]) (by simp only [↓sU, sD, reduceEqDiff, ↓reduceIte, reduceAdd, p8]) (by simp only [↓sU, sD, reduceEqDiff, ↓reduceIte, reduceAdd, p9]) (by simp only [↓sU, sD, reduceEqDiff, ↓reduceIte, reduceAdd, p10]) (by simp only [↓sU, sD, reduceEqDiff, ↓reduceIte, reduceAdd]) (by simp only [↓sU, sD, reduceEqDiff, ↓reduceIte, reduceAdd]; try rfl)) ?_
  rintro o ⟨F2, inr⟩ Y ⟨rfl, q0, nY, kY, dY, m, l, hm, hl, gY, r7, r8, r9, r10, r11, _⟩
  simp only at q0 r7 r8 r9 r10 r11
  subst q0
  obtain rfl : m = radM bits := by omega
  have tY := (kY tb (by omega) h1 (by omega)).trans t1
  have hrow : IsSl .i64 Y (.sl X.nx 0 n n false) l := by
    have := hl.len
    refine .inr ⟨X.nx, 0, n, false, cells64 l, by rw [this], by omega, by omega, by unfold cellsAt; rw [gY]; rfl, fun j x hj => ?_⟩
    rw [Nat.zero_add]
    unfold cells64
    rw [List.getElem?_map, hj]
    rfl
  have hbl := fun (F : Fr) (id : Nat) (h : tmpV 71 F = .sl X.nx 0 n n false) => evA_row (t := 22) (z := .nilsl) (x := .t 71) (F := F) (id := id) hrow h
  try simp only [↓sU, sD, reduceEqDiff, ↓reduceIte, reduceAdd]
  refine wpc_reg ?_
  simp only [↓stU, stD, reduceEqDiff, ↓reduceIte, reduceAdd, r9, r11, evQ_faddr, faddr_ptr, lg2_1 tY]
  refine wpo_al (hbl _ _ (by simp only [↓stU, stD, reduceEqDiff, ↓reduceIte, reduceAdd])) ?_
  intro Y1 y1 m1 c1
  try simp only [↓stU, stD, reduceEqDiff, ↓reduceIte, reduceAdd]
  have hgY1 : GrW 1 ⟨Y1.h, S0.nx⟩ Y1 pv i cs := (hg.move (S' := Y) (by omega) fun c hc => by
    obtain ⟨b1, b2, b3⟩ := hg.blk hc
    exact (kY c (by omega) (by omega) (by omega)).trans (x1.2 c b2)).step y1
  obtain ⟨pv', Z, eA, gA, bA, nA, rA⟩ := GrW.push1 (bytes := 24) (x := .sl X.nx 0 n n false) hgY1 ⟨by show S0.nx ≤ Y1.nx; omega, fun _ _ => rfl⟩ c1 (by unfold room; omega) (by unfold room; omega)
  have hpb : ∀ {c}, blkOf pv = some c → S0.nx ≤ c := fun hc => (hg.blk hc).1
  have lY1 := y1.1
  have tZ : Z.h.get tb = some (.cells [.int .i64 bits, pv] false 0) := by
    rw [rA tb (by omega) (fun e => by have := hpb e; omega)]
    exact (y1.2 tb (by omega)).trans tY
  refine wpo_x (v := pv') (S1 := Z) (fun call => by simp only [↓stU, stD, reduceEqDiff, ↓reduceIte, reduceAdd, evX_app]; exact eA) ?_
  simp only [↓stU, stD, reduceEqDiff, ↓reduceIte, reduceAdd, r9, evQ_faddr, faddr_ptr]
  have gAc : pv'.cells = some [pv'] := GrW.cells gA
  refine wpo_x (v := .undef) (S1 := ⟨Z.h.set tb (some (.cells [.int .i64 bits, pv'] false 0)), Z.nx⟩) (fun call => by
    simp only [↓stU, stD, reduceEqDiff, ↓reduceIte, reduceAdd, evX_st, gAc]
    exact stc (cs := [.int .i64 bits, pv]) (p := 1) (S := Z) tZ (by simp)) ?_
  simp only [↓sU, sD, reduceEqDiff, ↓reduceIte, reduceAdd]
  refine wpc_reg ?_
  simp only [↓sU, sD, reduceEqDiff, ↓reduceIte, reduceAdd, r10, w1]
  have hbA : ∀ {c}, blkOf pv' = some c → c = Y1.nx := fun hc => by rw [bA] at hc; exact (Option.some.inj hc).symm
  have kW : ∀ c, c ≠ tb → (Z.h.set tb (some (.cells [.int .i64 bits, pv'] false 0))).get c = Z.h.get c := fun c hc => by rw [T.get_set, if_neg hc]
  have kZX : ∀ c, c < X.nx → c ≠ tb → c ≠ db → blkOf pv ≠ some c → (Z.h.set tb (some (.cells [.int .i64 bits, pv'] false 0))).get c = X.h.get c := fun c a b d e => by
    rw [kW c b, rA c (by omega) e, y1.2 c (by omega), kY c (by omega) d (by omega), x1.2 c a]
  have hRZ := hR.push (Z := ⟨Z.h.set tb (some (.cells [.int .i64 bits, pv'] false 0)), Z.nx⟩) (pv' := pv') (r := .sl X.nx 0 n n false) (l := l) nX (by show X.nx ≤ Z.nx; omega) (fun c a b d => kZX c a (by omega) (by omega) d) (sl_move hrow (by show Y.nx ≤ Z.nx; omega) fun c hc => by
    cases hc
    rw [kW _ (by omega), rA _ (by omega) (fun e => by have := (hg.blk e).2.1; omega), y1.2 _ (by omega)]) (fun c hc => by cases hc; exact ⟨Nat.le_refl _, fun e => by have := hbA e; omega⟩) (fun c hc => by have := hbA hc; omega)
  refine ⟨k - 1, by omega, rfl, by show S0.nx ≤ Z.nx; omega, fun c a b d => (kZX c (by omega) d b (fun e => by have := hpb e; omega)).trans (kX c a b d), ?_, i + 1, pv', _, L ++ [l], by omega, by rw [List.length_append, hLl]; rfl, fun j hj => ?_, by simp only; rw [T.get_set, if_pos rfl], ?_, hRZ, by simp only [↓sU, sD, reduceEqDiff, ↓reduceIte, reduceAdd, r7], by simp only [↓sU, sD, reduceEqDiff, ↓reduceIte, reduceAdd, r8], by simp only [↓sU, sD, reduceEqDiff, ↓reduceIte, reduceAdd, r9], by simp only [↓sU, sD, reduceEqDiff, ↓reduceIte, reduceAdd]⟩
  · refine dY.move (by show Y.nx ≤ Z.nx; omega) ?_ fun c hc => ?_
    · rw [kW _ h1.symm, rA _ (by omega) (fun e => by have := hpb e; omega), y1.2 _ (by omega)]
    · have := lbt hc
      rw [kW c (fun e => h4 (by rw [hc, e])), rA c (by omega) (fun e => ?_), y1.2 c (by omega)]
      have h5 := hpb e
      have := sl_low hd.il hc
      omega
  · rw [getD_appL, hLl]
    by_cases e : j = i
    · subst e
      rw [if_pos rfl, hn, Int.toNat_natCast]
      exact hl
    · rw [if_neg e]
      exact hL j (by omega)
  · refine GrW.move (S := Z) gA (Nat.le_refl _) fun c hc => ?_
    have := hbA hc
    exact kW c (by omega)
end Go.Ev.Gl

namespace Go.Ev.Gl
variable {fns : T AFn}

/-! ## How often each node is wanted -/
def wantN (z : Nat) (pr W : Nat → Nat) (j : Nat) : Nat := z / pr j * W j
/-- all that is known of a table's spread -/
structure WtH (g : PGame) (b : Int) (L : List (List Int)) (pr W : Nat → Nat) (z : Nat) : Prop where
  G : GoodK g
  fits : GoodT g b L
  P : ProdM (radM b) g pr
  M : MassW g L W
  dv : ∀ j, j < g.nodes.length → pr j ∣ z ∧ ((nodeAt g j).kind ≠ 3 → pr j * wM (radM b) g j ∣ z)
  z0 : 0 < z
  z1 : z ≤ 3000
  fin : ∀ i, i < g.nodes.length → (nodeAt g i).kind = 3 → (nodeAt g i).weights = []
  n : g.nodes.length ≤ 15
section
variable {g : PGame} {b : Int} {L : List (List Int)} {pr W : Nat → Nat} {z : Nat}
theorem WtH.pos (h : WtH g b L pr W z) {j : Nat} (hj : j < g.nodes.length) : 0 < pr j := h.P.pos (radM_bd h.fits.b2) h.G hj
theorem WtH.sh (h : WtH g b L pr W z) {i k : Nat} (hi : i < g.nodes.length) (hk : k < (nodeAt g i).next.length) : (nodeAt g i).kind ≠ 3 ∧ SmallW (wL g L i) ∧ k < (wL g L i).length ∧ 0 ≤ (wL g L i).getD k 0 ∧ (wL g L i).getD k 0 ≤ ((wM (radM b) g i : Nat) : Int) ∧ (wL g L i).sum = ((wM (radM b) g i : Nat) : Int) ∧ 0 < wM (radM b) g i := by
  have h3 : (nodeAt g i).kind ≠ 3 := fun e => by rw [h.G.fin i hi e] at hk; exact absurd hk (Nat.not_lt_zero _)
  obtain ⟨f1, f2, f3, f4, f5, f6, f7⟩ := dec_facts (v := .nilsl) h.G h.fits hi h3
  have hl : k < (wL g L i).length := by omega
  have hm := getD_mem hl
  exact ⟨h3, (wL_facts h.G h.fits hi h3).1, hl, f5 _ hm, by rw [← f3]; exact le_sumNN f5 _ hm, f3, f4⟩
theorem WtH.le (h : WtH g b L pr W z) : ∀ {j : Nat}, j < g.nodes.length → W j ≤ pr j := by
  intro j
  induction j using Nat.strongRecOn with
  | ind j ih =>
    intro hj
    rcases Nat.eq_zero_or_pos j with h0 | h0
    · subst h0; rw [h.P.zero, h.M.zero]; exact Nat.le_refl _
    · obtain ⟨q, k, hq, hk, he⟩ := parent_of h.G.good h0 hj
      have e1 := h.P.kid q (by omega) k hk
      have e2 := h.M.kid q (by omega) k hk
      rw [he, Int.toNat_natCast] at e1 e2
      obtain ⟨_, _, _, a1, a2, _⟩ := h.sh (show q < g.nodes.length by omega) hk
      rw [e1, e2]
      exact Nat.mul_le_mul (ih q hq (by omega)) (by omega)
theorem WtH.wle (h : WtH g b L pr W z) {j : Nat} (hj : j < g.nodes.length) : wantN z pr W j ≤ 3000 := by
  unfold wantN
  have h1 := Nat.mul_le_mul_left (z / pr j) (h.le hj)
  have h2 := Nat.div_mul_le_self z (pr j)
  have h3 := h.z1
  omega
theorem WtH.step (h : WtH g b L pr W z) {i k : Nat} (hi : i < g.nodes.length) (hk : k < (nodeAt g i).next.length) : wantN z pr W i % wM (radM b) g i = 0 ∧ wantN z pr W i / wM (radM b) g i * ((wL g L i).getD k 0).toNat = wantN z pr W ((nodeAt g i).next.getD k 0).toNat := by
  obtain ⟨h3, _, _, _, _, _, f4⟩ := h.sh hi hk
  obtain ⟨m, hm⟩ := (h.dv i hi).2 h3
  have hp := h.pos hi
  have e1 : z / pr i = m * wM (radM b) g i := by rw [hm, Nat.mul_assoc, Nat.mul_div_cancel_left _ hp, Nat.mul_comm]
  have e2 : z / (pr i * wM (radM b) g i) = m := by rw [hm, Nat.mul_div_cancel_left _ (Nat.mul_pos hp f4)]
  have e3 : wantN z pr W i = m * W i * wM (radM b) g i := by
    unfold wantN
    rw [e1, Nat.mul_assoc, Nat.mul_comm (wM (radM b) g i), ← Nat.mul_assoc]
  refine ⟨by rw [e3, Nat.mul_mod_left], ?_⟩
  rw [e3, Nat.mul_div_cancel _ f4]
  unfold wantN
  rw [h.P.kid i hi k hk, h.M.kid i hi k hk, e2, Nat.mul_assoc]
/-- what has been counted already -/
def PW (g : PGame) (i q j : Nat) : Prop := j = 0 ∨ ∃ p k, p < g.nodes.length ∧ k < (nodeAt g p).next.length ∧ (nodeAt g p).next.getD k 0 = (j : Int) ∧ (p < i ∨ (p = i ∧ k < q))
theorem PW.at_ {i j q : Nat} (G : GoodG g) (hj : j < g.nodes.length) (h : j ≤ i) : PW g i q j := by
  rcases Nat.eq_zero_or_pos j with h0 | h0
  · exact .inl h0
  · obtain ⟨p, k, hp, hk, he⟩ := parent_of G h0 hj
    exact .inr ⟨p, k, by omega, hk, he, .inl (by omega)⟩
theorem PW.next {i j : Nat} (h : PW g (i + 1) 0 j) : PW g i (nodeAt g i).next.length j := by
  rcases h with h | ⟨p, k, h1, h2, h3, h4⟩
  · exact .inl h
  · refine .inr ⟨p, k, h1, h2, h3, ?_⟩
    by_cases e : p = i
    · subst e; exact .inr ⟨rfl, h2⟩
    · exact .inl (by omega)
theorem PW.kid {i j q : Nat} (h : PW g i (q + 1) j) : PW g i q j ∨ (nodeAt g i).next.getD q 0 = (j : Int) := by
  rcases h with h | ⟨p, k, h1, h2, h3, h4⟩
  · exact .inl (.inl h)
  · by_cases e : p = i ∧ k = q
    · obtain ⟨rfl, rfl⟩ := e
      exact .inr h3
    · exact .inl (.inr ⟨p, k, h1, h2, h3, by omega⟩)
end
/-- the list of what is wanted, in its block -/
def WlH (g : PGame) (z : Nat) (pr W : Nat → Nat) (i q : Nat) (wl : List Int) : Prop := wl.length = g.nodes.length ∧ ∀ j, j < g.nodes.length → PW g i q j → wl.getD j 0 = ((wantN z pr W j : Nat) : Int)
noncomputable def wsumC : AC := (.block 6 (.loop (.seq (.seq (.reg [⟨(some 120),(.q (.mv (.t 20))),none,0⟩,
⟨(some 121),(.q (.mv (.t 18))),none,0⟩,
⟨(some 122),(.q (.lenSl (.t 121))),none,0⟩,
⟨(some 123),(.q (.bin .lss (.p .int) (.t 120) (.t 122))),none,0⟩])
(.cond (.t 123) .skip (.exit 6)))
(.seq (.block 7 (.reg [⟨(some 126),(.q (.mv (.t 19))),none,0⟩,
⟨(some 127),(.q (.mv (.t 18))),none,0⟩,
⟨(some 128),(.q (.mv (.t 20))),none,0⟩,
⟨(some 129),(.q (.iaddr (.slice 1) (.t 127) (.t 128))),none,0⟩,
⟨(some 130),(.q (.ld false 1 (.t 129))),none,0⟩,
⟨(some 131),(.q (.bin .add (.p .int) (.t 126) (.t 130))),none,0⟩,
⟨(some 19),(.q (.mv (.t 131))),none,0⟩]))
(.reg [⟨(some 124),(.q (.mv (.t 20))),none,0⟩,
⟨(some 125),(.q (.bin .add (.p .int) (.t 124) (.c (.int .i64 (.ofNat 1))))),none,0⟩,
⟨(some 20),(.q (.mv (.t 125))),none,0⟩])))))
theorem wsum_ok {X : St} {F : Fr} {v : AV} {w : List Int} (P : Fr → Prop) (hv : IsSl .i64 X v w) (hs : SmallW w) (p18 : tmpV 18 F = v) (p19 : tmpV 19 F = .int .i64 0) (p20 : tmpV 20 F = .int .i64 0) (hP : P F) (hPm : ∀ F', (∀ j, j < 19 → tmpV j F' = tmpV j F) → P F') : wpc fns wsumC ⟨F, false⟩ X fun o A Y => o = .normal ∧ A.inr = false ∧ Y = X ∧ P A.F ∧ tmpV 18 A.F = v ∧ tmpV 19 A.F = .int .i64 w.sum := by
  have hl1 := hs.1
  unfold wsumC
  refine wpc_mono (Q := fun o A' Y => o = .normal ∧ A'.inr = false ∧ Y = X ∧ ∃ i, i + 0 = w.length ∧ (∀ j, j < 19 → tmpV j A'.F = tmpV j F) ∧ tmpV 19 A'.F = .int .i64 (w.take i).sum ∧ tmpV 20 A'.F = .int .i64 (i : Int)) (wpc_block (wpc_loop (fun k A' Y => A'.inr = false ∧ Y = X ∧ ∃ i, i + k = w.length ∧ (∀ j, j < 19 → tmpV j A'.F = tmpV j F) ∧ tmpV 19 A'.F = .int .i64 (w.take i).sum ∧ tmpV 20 A'.F = .int .i64 (i : Int)) ?_ w.length _ _ ⟨rfl, rfl, 0, by omega, fun _ _ => rfl, by rw [p19]; rfl, p20⟩)) ?_
  · rintro k ⟨F1, inr⟩ Y ⟨q0, rfl, i, hik, hk, r19, r20⟩
    simp only at q0 hk r19 r20
    subst q0
    have r18 := (hk 18 (by omega)).trans p18
    refine wss ?_
    simp only [↓sU, sD, reduceEqDiff, ↓reduceIte, reduceAdd, r18, r20, hv.len, Int.ofNat_eq_natCast]
    by_cases hlt : i < w.length
    rotate_left
    · refine wpc_non (by simp only [↓sU, sD, reduceEqDiff, ↓reduceIte, reduceAdd, decide_eq_false (show ¬ (i : Int) < ((w.length : Nat) : Int) by omega)]) (wpc_exit ?_)
      simp only [↓sU, sD, reduceEqDiff, ↓reduceIte, reduceAdd]
      refine ⟨i, by omega, fun j hj => ?_, by simp only [↓sU, sD, reduceEqDiff, ↓reduceIte, reduceAdd, r19], by simp only [↓sU, sD, reduceEqDiff, ↓reduceIte, reduceAdd, r20]⟩
      rw [if_neg (by omega), if_neg (by omega), if_neg (by omega), if_neg (by omega)]
      exact hk j hj
    refine wpc_yes (by simp only [↓sU, sD, reduceEqDiff, ↓reduceIte, reduceAdd, decide_eq_true (show (i : Int) < ((w.length : Nat) : Int) by omega)]) (wpc_skip ?_)
    try simp only [↓sU, sD, reduceEqDiff, ↓reduceIte, reduceAdd]
    have ia := hv.iaddr hlt
    have la := hv.ld hlt
    have hb := hs.sum_le (i + 1)
    have w1 : IntKind.i64.wrap ((i : Int) + 1) = ((i + 1 : Nat) : Int) := by rw [wrap_i64 (by omega) (by omega)]; omega
    have w2 : IntKind.i64.wrap ((w.take i).sum + w.getD i 0) = (w.take (i + 1)).sum := by rw [← sum_take hlt]; exact wrap_i64 (by omega) (by omega)
    refine wpc_seq (wpc_block (wpc_reg ?_))
    simp only [↓sU, sD, reduceEqDiff, ↓reduceIte, reduceAdd, r18, r19, r20, natOf_cast, ia, la, w2]
    refine wpc_reg ?_
    simp only [↓sU, sD, reduceEqDiff, ↓reduceIte, reduceAdd, r20, w1]
    refine ⟨k - 1, by omega, i + 1, by omega, fun j hj => ?_, by simp only [↓sU, sD, reduceEqDiff, ↓reduceIte, reduceAdd], by simp only [↓sU, sD, reduceEqDiff, ↓reduceIte, reduceAdd]⟩
    repeat rw [if_neg (by omega)]
    exact hk j hj
  · rintro o ⟨F1, inr⟩ Y ⟨rfl, q0, rfl, i, hi, hk, r19, r20⟩
    simp only at q0 hk r19
    rw [List.take_of_length_le (by omega)] at r19
    exact ⟨rfl, q0, rfl, hPm F1 hk, (hk 18 (by omega)).trans p18, r19⟩
noncomputable def wkidP : List AO := [⟨(some 146),(.q (.mv (.t 15))),none,0⟩,
⟨(some 147),(.q (.faddr 3 (.t 17))),none,0⟩,
⟨(some 148),(.q (.ld false 1 (.t 147))),none,2⟩,
⟨(some 149),(.q (.mv (.t 21))),none,0⟩,
⟨(some 150),(.q (.iaddr (.slice 1) (.t 148) (.t 149))),none,14⟩,
⟨(some 151),(.q (.ld false 1 (.t 150))),none,30⟩,
⟨(some 152),(.q (.mv (.t 15))),none,0⟩,
⟨(some 153),(.q (.mv (.t 16))),none,0⟩,
⟨(some 154),(.q (.iaddr (.slice 1) (.t 152) (.t 153))),none,192⟩,
⟨(some 155),(.q (.ld false 1 (.t 154))),none,448⟩,
⟨(some 156),(.q (.mv (.t 19))),none,0⟩,
⟨(some 157),(.q (.bin .quo (.p .int) (.t 155) (.t 156))),none,1984⟩,
⟨(some 158),(.q (.mv (.t 18))),none,0⟩,
⟨(some 159),(.q (.mv (.t 21))),none,0⟩,
⟨(some 160),(.q (.iaddr (.slice 1) (.t 158) (.t 159))),none,12288⟩,
⟨(some 161),(.q (.ld false 1 (.t 160))),none,28672⟩,
⟨(some 162),(.q (.bin .mul (.p .int) (.t 157) (.t 161))),none,65472⟩,
⟨(some 163),(.q (.iaddr (.slice 1) (.t 146) (.t 151))),none,131071⟩]
noncomputable def wkidC : AC := (.block 8 (.loop (.seq (.seq (.reg [⟨(some 132),(.q (.mv (.t 21))),none,0⟩,
⟨(some 133),(.q (.faddr 3 (.t 17))),none,0⟩,
⟨(some 134),(.q (.ld false 1 (.t 133))),none,0⟩,
⟨(some 135),(.q (.lenSl (.t 134))),none,0⟩,
⟨(some 136),(.q (.bin .lss (.p .int) (.t 132) (.t 135))),none,0⟩])
(.cond (.t 136) .skip (.exit 8)))
(.seq (.block 9 (.seq (.seq (.reg [⟨(some 139),(.q (.mv (.t 15))),none,0⟩,
⟨(some 140),(.q (.mv (.t 16))),none,0⟩,
⟨(some 141),(.q (.iaddr (.slice 1) (.t 139) (.t 140))),none,0⟩,
⟨(some 142),(.q (.ld false 1 (.t 141))),none,0⟩,
⟨(some 143),(.q (.mv (.t 19))),none,0⟩,
⟨(some 144),(.q (.bin .rem (.p .int) (.t 142) (.t 143))),none,0⟩,
⟨(some 145),(.q (.bin .neq (.p .int) (.t 144) (.c (.int .i64 (.ofNat 0))))),none,0⟩])
(.cond (.t 145) (.seq (.reg [⟨(some 6),(.q (.mv (.c (.bool false)))),none,0⟩])
.ret) .skip))
(.drw [⟨(some 146),(.q (.mv (.t 15))),none,0⟩,
⟨(some 147),(.q (.faddr 3 (.t 17))),none,0⟩,
⟨(some 148),(.q (.ld false 1 (.t 147))),none,2⟩,
⟨(some 149),(.q (.mv (.t 21))),none,0⟩,
⟨(some 150),(.q (.iaddr (.slice 1) (.t 148) (.t 149))),none,14⟩,
⟨(some 151),(.q (.ld false 1 (.t 150))),none,30⟩,
⟨(some 152),(.q (.mv (.t 15))),none,0⟩,
⟨(some 153),(.q (.mv (.t 16))),none,0⟩,
⟨(some 154),(.q (.iaddr (.slice 1) (.t 152) (.t 153))),none,192⟩,
⟨(some 155),(.q (.ld false 1 (.t 154))),none,448⟩,
⟨(some 156),(.q (.mv (.t 19))),none,0⟩,
⟨(some 157),(.q (.bin .quo (.p .int) (.t 155) (.t 156))),none,1984⟩,
⟨(some 158),(.q (.mv (.t 18))),none,0⟩,
⟨(some 159),(.q (.mv (.t 21))),none,0⟩,
⟨(some 160),(.q (.iaddr (.slice 1) (.t 158) (.t 159))),none,12288⟩,
⟨(some 161),(.q (.ld false 1 (.t 160))),none,28672⟩,
⟨(some 162),(.q (.bin .mul (.p .int) (.t 157) (.t 161))),none,65472⟩,
⟨(some 163),(.q (.iaddr (.slice 1) (.t 146) (.t 151))),none,131071⟩,
⟨none,(.x (.st 1 (.t 163) (.t 162))),none,262143⟩])))
(.reg [⟨(some 137),(.q (.mv (.t 21))),none,0⟩,
⟨(some 138),(.q (.bin .add (.p .int) (.t 137) (.c (.int .i64 (.ofNat 1))))),none,0⟩,
⟨(some 21),(.q (.mv (.t 138))),none,0⟩])))))
def WkI (X0 : St) (gb tb wb nb z : Nat) (g : PGame) (pr W : Nat → Nat) (i : Nat) (shv : AV) (R : Nat) (cells : List AV) (k : Nat) (A : Act') (X : St) : Prop := A.inr = false ∧ Same X0 X ∧ wb < X.nx ∧ nb < X.nx ∧ X.h.get nb = some (.cells cells false 0) ∧ ∃ (q : Nat) (wl : List Int), q + k = (nodeAt g i).next.length ∧ WlH g z pr W i q wl ∧ X.h.get wb = some (.cells (cells64 wl) false 0) ∧ tmpV 8 A.F = .ptr gb 0 ∧ tmpV 9 A.F = .ptr tb 0 ∧ tmpV 13 A.F = .int .i64 (z : Int) ∧ tmpV 15 A.F = .sl wb 0 g.nodes.length g.nodes.length false ∧ tmpV 16 A.F = .int .i64 (i : Int) ∧ tmpV 17 A.F = .ptr nb 0 ∧ tmpV 18 A.F = shv ∧ tmpV 19 A.F = .int .i64 (R : Int) ∧ tmpV 21 A.F = .int .i64 (q : Int)
set_option maxHeartbeats 4000000 in
theorem wkid_ok {X0 X : St} {F : Fr} {gb tb wb nb z i : Nat} {g : PGame} {b : Int} {L : List (List Int)} {pr W : Nat → Nat} {shv xa xw xp k0 k1 k2 : AV} {R : Nat} {wl : List Int} (h : WtH g b L pr W z) (hi : i < g.nodes.length) (hR : (nodeAt g i).kind ≠ 3 → R = wM (radM b) g i) (hxa : IsSl .i64 X0 xa (nodeAt g i).next) (hsv : IsSl .i64 X0 shv (wL g L i)) (hs : Same X0 X) (lw : X0.nx ≤ wb) (lwX : wb < X.nx) (ln : X0.nx ≤ nb) (lnX : nb < X.nx) (hne : nb ≠ wb) (gn : X.h.get nb = some (.cells [k0, k1, k2, xa, xw, xp] false 0)) (hw : WlH g z pr W i 0 wl) (gw : X.h.get wb = some (.cells (cells64 wl) false 0))
    (p8 : tmpV 8 F = .ptr gb 0) (p9 : tmpV 9 F = .ptr tb 0) (p13 : tmpV 13 F = .int .i64 (z : Int)) (p15 : tmpV 15 F = .sl wb 0 g.nodes.length g.nodes.length false) (p16 : tmpV 16 F = .int .i64 (i : Int)) (p17 : tmpV 17 F = .ptr nb 0) (p18 : tmpV 18 F = shv) (p19 : tmpV 19 F = .int .i64 (R : Int)) (p21 : tmpV 21 F = .int .i64 0) :
    wpc fns wkidC ⟨F, false⟩ X fun o A Y => o = .normal ∧ WkI X0 gb tb wb nb z g pr W i shv R [k0, k1, k2, xa, xw, xp] 0 A Y := by
  unfold wkidC
  refine wpc_block (wpc_loop (WkI X0 gb tb wb nb z g pr W i shv R [k0, k1, k2, xa, xw, xp]) ?_ (nodeAt g i).next.length _ _ ⟨rfl, hs, lwX, lnX, gn, 0, wl, by omega, hw, gw, p8, p9, p13, p15, p16, p17, p18, p19, p21⟩)
  clear hs lwX lnX gn hw gw p8 p9 p13 p15 p16 p17 p18 p19 p21 wl
  rintro k ⟨F, inr⟩ Y ⟨q0, hs, lwX, lnX, gn, q, wl, hqk, hw, gw, p8, p9, p13, p15, p16, p17, p18, p19, p21⟩
  simp only at q0 p8 p9 p13 p15 p16 p17 p18 p19 p21
  subst q0
  have hxaY := hxa.same hs
  refine wss ?_
  simp only [↓sU, sD, reduceEqDiff, ↓reduceIte, reduceAdd, p17, p21, evQ_faddr, faddr_ptr, ld6_3 gn, hxaY.len, Int.ofNat_eq_natCast]
  by_cases hj : q < (nodeAt g i).next.length
  rotate_left
  · refine wpc_non (by simp only [↓sU, sD, reduceEqDiff, ↓reduceIte, reduceAdd, decide_eq_false (show ¬ (q : Int) < (((nodeAt g i).next.length : Nat) : Int) by omega)]) (wpc_exit ?_)
    simp only [↓sU, sD, reduceEqDiff, ↓reduceIte, reduceAdd]
    obtain rfl : k = 0 := by omega
    exact ⟨rfl, hs, lwX, lnX, gn, q, wl, hqk, hw, gw, by simp only [↓sU, sD, reduceEqDiff, ↓reduceIte, reduceAdd, p8], by simp only [↓sU, sD, reduceEqDiff, ↓reduceIte, reduceAdd, p9], by simp only [↓sU, sD, reduceEqDiff, ↓reduceIte, reduceAdd, p13], by simp only [↓sU, sD, reduceEqDiff, ↓reduceIte, reduceAdd, p15], by simp only [↓sU, sD, reduceEqDiff, ↓reduceIte, reduceAdd, p16], by simp only [↓sU, sD, reduceEqDiff, ↓reduceIte, reduceAdd, p17], by simp only [↓sU, sD, reduceEqDiff, ↓reduceIte, reduceAdd, p18], by simp only [↓sU, sD, reduceEqDiff, ↓reduceIte, reduceAdd, p19], by simp only [↓sU, sD, reduceEqDiff, ↓reduceIte, reduceAdd, p21]⟩
  refine wpc_yes (by simp only [↓sU, sD, reduceEqDiff, ↓reduceIte, reduceAdd, decide_eq_true (show (q : Int) < (((nodeAt g i).next.length : Nat) : Int) by omega)]) (wpc_skip ?_)
  try simp only [↓sU, sD, reduceEqDiff, ↓reduceIte, reduceAdd]
  obtain ⟨b1, b2⟩ := h.G.good.kids i hi q hj
  obtain ⟨h3, hsm, hql, s0, s1, hsum, hpR⟩ := h.sh hi hj
  obtain ⟨e1, e2⟩ := h.step hi hj
  obtain rfl := hR h3
  have hwi := hw.2 i hi (PW.at_ h.G.good hi (Nat.le_refl _))
  have hwb := h.wle hi
  have hcb := h.wle (j := ((nodeAt g i).next.getD q 0).toNat) (by omega)
  have hnb := h.n
  have hiR := row_ia (b := wb) (o := false) (N := g.nodes.length) hi
  have hlR := ld64 gw (show i < wl.length by rw [hw.1]; exact hi)
  rw [hwi] at hlR
  have hrem := bin_rem_nat (.p .int) .i64 (t := wantN z pr W i) hpR
  rw [e1] at hrem
  refine wpc_seq (wpc_block (wpc_seq (wpc_seq (wpc_reg ?_))))
  simp only [↓sU, sD, reduceEqDiff, ↓reduceIte, reduceAdd, p15, p16, p19, natOf_cast, hiR, hlR, hrem]
  refine wpc_non (by simp only [↓sU, sD, reduceEqDiff, ↓reduceIte, reduceAdd]; try rfl) (wpc_skip ?_)
  try simp only [↓sU, sD, reduceEqDiff, ↓reduceIte, reduceAdd]
  obtain ⟨u, hu⟩ : ∃ u : Nat, (wL g L i).getD q 0 = (u : Int) := ⟨((wL g L i).getD q 0).toNat, by omega⟩
  have hquo := bin_quo_i (.p .int) (a := ((wantN z pr W i : Nat) : Int)) (b := ((wM (radM b) g i : Nat) : Int)) (by omega) (by omega) (by omega)
  rw [← Int.natCast_ediv] at hquo
  rw [hu, Int.toNat_natCast] at e2
  have hw2 : IntKind.i64.wrap (((wantN z pr W i / wM (radM b) g i : Nat) : Int) * (u : Int)) = ((wantN z pr W ((nodeAt g i).next.getD q 0).toNat : Nat) : Int) := by
    rw [← Int.natCast_mul, e2]
    exact wrap_i64 (by omega) (by omega)
  have hsvY := hsv.same hs
  have his := hsvY.iaddr hql
  have hls := hsvY.ld hql
  rw [hu] at hls
  have hiac := hxaY.iaddr hj
  have hlac := hxaY.ld hj
  have hnc := natOf_nn (k := .i64) (show 0 ≤ (nodeAt g i).next.getD q 0 by omega)
  have hcN : ((nodeAt g i).next.getD q 0).toNat < g.nodes.length := by omega
  have hi2 := row_ia (b := wb) (o := false) (N := g.nodes.length) hcN
  have sxa := IsSl.self hxaY
  have ssv := IsSl.self hsvY
  have w1 : IntKind.i64.wrap ((q : Int) + 1) = ((q + 1 : Nat) : Int) := by have := h.G.good.nxt i hi; rw [wrap_i64 (by omega) (by omega)]; omega
  refine wpc_drs' (pre := wkidP) (K := 18) (m := 262143) (n := 1) (x := .t 163) (v := .t 162) rfl rfl rfl rfl ?_
  unfold wkidP
  simp only [↓sU, sD, reduceEqDiff, ↓reduceIte, reduceAdd, p15, p16, p17, p18, p19, p21, evQ_faddr, isLoad_faddr, faddr_ptr, ld6_3 gn, sxa, ssv, natOf_cast, hiac, hlac, hiR, hlR, his, hls, hquo, hw2, hnc, hi2]
  simp only [cells_int, osel_some]
  refine ⟨_, st64 (S := ⟨Y.h, Y.nx + 19⟩) gw (by rw [hw.1]; exact hcN), ?_⟩
  try simp only [↓sU, sD, reduceEqDiff, ↓reduceIte, reduceAdd]
  refine wpc_reg ?_
  simp only [↓sU, sD, reduceEqDiff, ↓reduceIte, reduceAdd, p21, w1]
  refine ⟨k - 1, by omega, rfl, ⟨by have := hs.1; show X0.nx ≤ Y.nx + 19; omega, fun c hc => by simp only; rw [T.get_set, if_neg (by omega)]; exact hs.2 c hc⟩, by show wb < Y.nx + 19; omega, by show nb < Y.nx + 19; omega, by simp only; rw [T.get_set, if_neg hne]; exact gn, q + 1, wl.set ((nodeAt g i).next.getD q 0).toNat ((wantN z pr W ((nodeAt g i).next.getD q 0).toNat : Nat) : Int), by omega, ⟨(List.length_set ..).trans hw.1, fun j hj hP => ?_⟩, by simp only; rw [T.get_set, if_pos rfl], by simp only [↓sU, sD, reduceEqDiff, ↓reduceIte, reduceAdd, p8], by simp only [↓sU, sD, reduceEqDiff, ↓reduceIte, reduceAdd, p9], by simp only [↓sU, sD, reduceEqDiff, ↓reduceIte, reduceAdd, p13], by simp only [↓sU, sD, reduceEqDiff, ↓reduceIte, reduceAdd, p15], by simp only [↓sU, sD, reduceEqDiff, ↓reduceIte, reduceAdd, p16], by simp only [↓sU, sD, reduceEqDiff, ↓reduceIte, reduceAdd, p17], by simp only [↓sU, sD, reduceEqDiff, ↓reduceIte, reduceAdd, p18], by simp only [↓sU, sD, reduceEqDiff, ↓reduceIte, reduceAdd, p19], by simp only [↓sU, sD, reduceEqDiff, ↓reduceIte, reduceAdd]⟩
  rw [getD_set (by rw [hw.1]; exact hcN)]
  by_cases e : j = ((nodeAt g i).next.getD q 0).toNat
  · rw [if_pos e, e]
  · rw [if_neg e]
    rcases hP.kid with hP | hP
    · exact hw.2 j hj hP
    · omega
end Go.Ev.Gl

namespace Go.Ev.Gl
variable {fns : T AFn}

/-! ## All nodes' wants, and what is found -/
noncomputable def wantC : AC := (.block 4 (.loop (.seq (.seq (.reg [⟨(some 97),(.q (.mv (.t 16))),none,0⟩,
⟨(some 98),(.q (.faddr 1 (.t 8))),none,0⟩,
⟨(some 99),(.q (.ld false 1 (.t 98))),none,0⟩,
⟨(some 100),(.q (.lenSl (.t 99))),none,0⟩,
⟨(some 101),(.q (.bin .lss (.p .int) (.t 97) (.t 100))),none,0⟩])
(.cond (.t 101) .skip (.exit 4)))
(.seq (.block 5 (.seq (.reg [⟨(some 104),(.q (.faddr 1 (.t 8))),none,0⟩,
⟨(some 105),(.q (.ld false 1 (.t 104))),none,0⟩,
⟨(some 106),(.q (.mv (.t 16))),none,0⟩,
⟨(some 107),(.q (.iaddr (.slice 6) (.t 105) (.t 106))),none,0⟩,
⟨(some 108),(.q (.ld true 6 (.t 107))),none,0⟩,
⟨(some 17),(.a (.alloc 64 [(.int .i64 (.ofNat 0)),(.int .i64 (.ofNat 0)),(.int .i64 (.ofNat 0)),.nilsl,.nilsl,.nilsl])),none,0⟩,
⟨none,(.x (.st 6 (.t 17) (.t 108))),none,0⟩])
(.seq (.reg [⟨(some 109),(.q (.faddr 4 (.t 17))),none,0⟩,
⟨(some 110),(.q (.ld false 1 (.t 109))),none,0⟩,
⟨(some 18),(.q (.mv (.t 110))),none,0⟩])
(.seq (.seq (.reg [⟨(some 111),(.q (.faddr 0 (.t 17))),none,0⟩,
⟨(some 112),(.q (.ld false 1 (.t 111))),none,0⟩,
⟨(some 113),(.q (.bin .eql (.p .int) (.t 112) (.c (.int .i64 (.ofNat 2))))),none,0⟩])
(.cond (.t 113) (.reg [⟨(some 114),(.q (.faddr 1 (.t 9))),none,0⟩,
⟨(some 115),(.q (.ld false 1 (.t 114))),none,0⟩,
⟨(some 116),(.q (.faddr 2 (.t 17))),none,0⟩,
⟨(some 117),(.q (.ld false 1 (.t 116))),none,0⟩,
⟨(some 118),(.q (.iaddr (.slice 1) (.t 115) (.t 117))),none,0⟩,
⟨(some 119),(.q (.ld false 1 (.t 118))),none,0⟩,
⟨(some 18),(.q (.mv (.t 119))),none,0⟩]) .skip))
(.seq (.reg [⟨(some 19),(.q (.mv (.c (.int .i64 (.ofNat 0))))),none,0⟩])
(.seq (.seq (.reg [⟨(some 20),(.q (.mv (.c (.int .i64 (.ofNat 0))))),none,0⟩])
wsumC)
(.seq (.reg [⟨(some 21),(.q (.mv (.c (.int .i64 (.ofNat 0))))),none,0⟩])
wkidC)))))))
(.reg [⟨(some 102),(.q (.mv (.t 16))),none,0⟩,
⟨(some 103),(.q (.bin .add (.p .int) (.t 102) (.c (.int .i64 (.ofNat 1))))),none,0⟩,
⟨(some 16),(.q (.mv (.t 103))),none,0⟩])))))
def WoI (X0 : St) (gb tb wb z : Nat) (g : PGame) (pr W : Nat → Nat) (k : Nat) (A : Act') (X : St) : Prop := A.inr = false ∧ Same X0 X ∧ wb < X.nx ∧ ∃ (i : Nat) (wl : List Int), i + k = g.nodes.length ∧ WlH g z pr W i 0 wl ∧ X.h.get wb = some (.cells (cells64 wl) false 0) ∧ tmpV 8 A.F = .ptr gb 0 ∧ tmpV 9 A.F = .ptr tb 0 ∧ tmpV 13 A.F = .int .i64 (z : Int) ∧ tmpV 15 A.F = .sl wb 0 g.nodes.length g.nodes.length false ∧ tmpV 16 A.F = .int .i64 (i : Int)
theorem smallW_nil : SmallW [] := ⟨by decide, fun x hx => by cases hx⟩
set_option maxHeartbeats 8000000 in
theorem want_ok {X0 X : St} {F : Fr} {gb tb wb z : Nat} {g : PGame} {b ps : Int} {L : List (List Int)} {pr W : Nat → Nat} {nv iv sv : AV} {wl : List Int} (h : WtH g b L pr W z) (hn : IsSlG 6 NodeE X0 nv g.nodes) (hv : IsSlG 1 SlE X0 sv L) (gG : X0.h.get gb = some (.cells [.int .i64 ps, nv, iv] false 0)) (gT : X0.h.get tb = some (.cells [.int .i64 b, sv] false 0)) (lg : gb < X0.nx) (lt : tb < X0.nx) (hs : Same X0 X) (lw : X0.nx ≤ wb) (lwX : wb < X.nx) (hw : WlH g z pr W 0 0 wl) (gw : X.h.get wb = some (.cells (cells64 wl) false 0))
    (p8 : tmpV 8 F = .ptr gb 0) (p9 : tmpV 9 F = .ptr tb 0) (p13 : tmpV 13 F = .int .i64 (z : Int)) (p15 : tmpV 15 F = .sl wb 0 g.nodes.length g.nodes.length false) (p16 : tmpV 16 F = .int .i64 0) :
    wpc fns wantC ⟨F, false⟩ X fun o A Y => o = .normal ∧ WoI X0 gb tb wb z g pr W 0 A Y := by
  unfold wantC
  refine wpc_block (wpc_loop (WoI X0 gb tb wb z g pr W) ?_ g.nodes.length _ _ ⟨rfl, hs, lwX, 0, wl, by omega, hw, gw, p8, p9, p13, p15, p16⟩)
  clear hs lwX hw gw p8 p9 p13 p15 p16 wl
  rintro k ⟨F, inr⟩ V ⟨q0, hs, lwX, i, wl, hik, hw, gw, p8, p9, p13, p15, p16⟩
  simp only at q0 p8 p9 p13 p15 p16
  subst q0
  have cV := (hs.2 gb lg).trans gG
  refine wss ?_
  simp only [↓sU, sD, reduceEqDiff, ↓reduceIte, reduceAdd, p8, p16, evQ_faddr, faddr_ptr, lg3_1 cV, hn.len, Int.ofNat_eq_natCast]
  by_cases hlt : i < g.nodes.length
  rotate_left
  · refine wpc_non (by simp only [↓sU, sD, reduceEqDiff, ↓reduceIte, reduceAdd, decide_eq_false (show ¬ (i : Int) < ((g.nodes.length : Nat) : Int) by omega)]) (wpc_exit ?_)
    simp only [↓sU, sD, reduceEqDiff, ↓reduceIte, reduceAdd]
    obtain rfl : k = 0 := by omega
    exact ⟨rfl, hs, lwX, i, wl, hik, hw, gw, by simp only [↓sU, sD, reduceEqDiff, ↓reduceIte, reduceAdd, p8], by simp only [↓sU, sD, reduceEqDiff, ↓reduceIte, reduceAdd, p9], by simp only [↓sU, sD, reduceEqDiff, ↓reduceIte, reduceAdd, p13], by simp only [↓sU, sD, reduceEqDiff, ↓reduceIte, reduceAdd, p15], by simp only [↓sU, sD, reduceEqDiff, ↓reduceIte, reduceAdd, p16]⟩
  refine wpc_yes (by simp only [↓sU, sD, reduceEqDiff, ↓reduceIte, reduceAdd, decide_eq_true (show (i : Int) < ((g.nodes.length : Nat) : Int) by omega)]) (wpc_skip ?_)
  try simp only [↓sU, sD, reduceEqDiff, ↓reduceIte, reduceAdd]
  obtain ⟨_, bx, qx, hiax, hbx, _, ⟨xa, xw, xp, rfl, hxa, hxw, hxp⟩, hldx, _⟩ := IsSlG.at hn (by decide) (nodeAt_some hlt)
  rw [← ldSame hs hbx] at hldx
  have hnb := h.n
  have w0 : IntKind.i64.wrap ((i : Int) + 1) = ((i + 1 : Nat) : Int) := by rw [wrap_i64 (by omega) (by omega)]; omega
  refine wpc_seq (wpc_block (wpc_seq (wpc_reg ?_)))
  simp only [↓stU, stD, reduceEqDiff, ↓reduceIte, reduceAdd, p8, p16, evQ_faddr, faddr_ptr, lg3_1 cV, natOf_cast, hiax, hldx]
  refine wpo_alloc ?_
  intro W1 v1 k1 h1
  refine wpo_st (b := V.nx) (by simp only [↓stU, stD, reduceEqDiff, ↓reduceIte, reduceAdd]) (by simp only [↓stU, stD, reduceEqDiff, ↓reduceIte, reduceAdd]; exact cells_agg _) h1 rfl rfl ?_
  intro Y v2 k2 h2
  simp only [↓stU, stD, reduceEqDiff, ↓reduceIte, reduceAdd]
  have sVY : Same V Y := v2.same v1 (Nat.le_refl _)
  have gwY := (sVY.2 _ lwX).trans gw
  have sY := hs.trans sVY
  have tY := (sY.2 tb lt).trans gT
  have lxY : V.nx < Y.nx := by omega
  have nwx : V.nx ≠ wb := by omega
  have nVX := hs.1
  clear v1 v2 h1 k1 gw k2 cV
  refine wsr ?_
  simp only [↓sU, sD, reduceEqDiff, ↓reduceIte, reduceAdd, evQ_faddr, faddr_ptr, ld6_4 h2]
  refine wpc_seq (wpc_mono (Q := fun o A' Z => o = .normal ∧ A'.inr = false ∧ Z = Y ∧ (∃ v, tmpV 18 A'.F = v ∧ IsSl .i64 X0 v (wL g L i)) ∧ tmpV 8 A'.F = .ptr gb 0 ∧ tmpV 9 A'.F = .ptr tb 0 ∧ tmpV 13 A'.F = .int .i64 (z : Int) ∧ tmpV 15 A'.F = .sl wb 0 g.nodes.length g.nodes.length false ∧ tmpV 16 A'.F = .int .i64 (i : Int) ∧ tmpV 17 A'.F = .ptr V.nx 0) (wpc_seq (wpc_reg ?_)) ?_)
  · simp only [↓sU, sD, reduceEqDiff, ↓reduceIte, reduceAdd, evQ_faddr, faddr_ptr, ld6_0 h2]
    by_cases hk2 : (nodeAt g i).kind = 2
    · have e : wL g L i = L.getD (nodeAt g i).info.toNat [] := by unfold wL; rw [if_pos hk2]
      rw [e]
      obtain ⟨a1, a2, _⟩ := h.G.good.inf i hlt hk2
      have hl := h.fits.len
      have hnc := natOf_nn (k := .i64) a1
      obtain ⟨_, br, qr, hia, lbr, _, ⟨a, rfl, hrow⟩, _, hlf⟩ := IsSlG.at hv (by decide) (get_some (show (nodeAt g i).info.toNat < L.length by omega))
      have hld := hlf 0 a rfl
      rw [Nat.add_zero, ← ldSame sY lbr] at hld
      refine wpc_yes (by simp only [↓sU, sD, reduceEqDiff, ↓reduceIte, reduceAdd, decide_eq_true hk2]) ?_
      refine wpc_reg ?_
      simp only [↓sU, sD, reduceEqDiff, ↓reduceIte, reduceAdd, p8, p9, p13, p15, p16, evQ_faddr, faddr_ptr, lg2_1 tY, ld6_2 h2, hnc, hia, hld]
      refine ⟨_, rfl, hrow⟩
    · have e : wL g L i = (nodeAt g i).weights := by unfold wL; rw [if_neg hk2]
      rw [e]
      refine wpc_non (by simp only [↓sU, sD, reduceEqDiff, ↓reduceIte, reduceAdd, decide_eq_false hk2]) (wpc_skip ?_)
      simp only [↓sU, sD, reduceEqDiff, ↓reduceIte, reduceAdd, p8, p9, p13, p15, p16]
      exact ⟨_, rfl, hxw⟩
  clear p8 p9 p13 p15 p16
  rintro o ⟨F, inr⟩ Z ⟨rfl, q0, rfl, ⟨shv, p18, hsv⟩, p8, p9, p13, p15, p16, p17⟩
  simp only at q0 p8 p9 p13 p15 p16 p17 p18
  subst q0
  have hsm : SmallW (wL g L i) := by
    by_cases h3 : (nodeAt g i).kind = 3
    · have e : wL g L i = [] := by unfold wL; rw [if_neg (by omega)]; exact h.fin i hlt h3
      rw [e]; exact smallW_nil
    · exact (wL_facts h.G h.fits hlt h3).1
  have hsn : 0 ≤ (wL g L i).sum := sum_nn fun x hx => (hsm.2 x hx).1
  try simp only [↓sU, sD, reduceEqDiff, ↓reduceIte, reduceAdd]
  refine wsr ?_
  simp only [↓sU, sD, reduceEqDiff, ↓reduceIte, reduceAdd]
  refine wss ?_
  simp only [↓sU, sD, reduceEqDiff, ↓reduceIte, reduceAdd]
  refine wpc_mono (wsum_ok (v := shv) (w := wL g L i) (fun F => tmpV 8 F = .ptr gb 0 ∧ tmpV 9 F = .ptr tb 0 ∧ tmpV 13 F = .int .i64 (z : Int) ∧ tmpV 15 F = .sl wb 0 g.nodes.length g.nodes.length false ∧ tmpV 16 F = .int .i64 (i : Int) ∧ tmpV 17 F = .ptr V.nx 0) (hsv.same sY) hsm (by simp only [↓sU, sD, reduceEqDiff, ↓reduceIte, reduceAdd, p18]) (by simp only [↓sU, sD, reduceEqDiff, ↓reduceIte, reduceAdd]; try rfl) (by simp only [↓sU, sD, reduceEqDiff, ↓reduceIte, reduceAdd]; try rfl) (by simp only [↓sU, sD, reduceEqDiff, ↓reduceIte, reduceAdd, p8, p9, p13, p15, p16, p17]; try exact ⟨rfl, rfl, rfl, rfl, rfl, rfl⟩) fun F' hj => ⟨(hj 8 (by omega)).trans (by simp only [↓sU, sD, reduceEqDiff, ↓reduceIte, reduceAdd, p8]), (hj 9 (by omega)).trans (by simp only [↓sU, sD, reduceEqDiff, ↓reduceIte, reduceAdd, p9]), (hj 13 (by omega)).trans (by simp only [↓sU, sD, reduceEqDiff, ↓reduceIte, reduceAdd, p13]), (hj 15 (by omega)).trans (by simp only [↓sU, sD, reduceEqDiff, ↓reduceIte, reduceAdd, p15]), (hj 16 (by omega)).trans (by simp only [↓sU, sD, reduceEqDiff, ↓reduceIte, reduceAdd, p16]), (hj 17 (by omega)).trans (by simp only [↓sU, sD, reduceEqDiff, ↓reduceIte, reduceAdd, p17])⟩) ?_
  clear p8 p9 p13 p15 p16 p17 p18
  rintro o ⟨F, inr⟩ Z2 ⟨rfl, q0, rfl, ⟨p8, p9, p13, p15, p16, p17⟩, p18, p19⟩
  simp only at q0 p8 p9 p13 p15 p16 p17 p18 p19
  subst q0
  obtain ⟨R, hR⟩ : ∃ R : Nat, (wL g L i).sum = (R : Int) := ⟨(wL g L i).sum.toNat, by omega⟩
  rw [hR] at p19
  try simp only [↓sU, sD, reduceEqDiff, ↓reduceIte, reduceAdd]
  refine wsr ?_
  simp only [↓sU, sD, reduceEqDiff, ↓reduceIte, reduceAdd]
  refine wpc_mono (wkid_ok (X0 := X0) (gb := gb) (tb := tb) (wb := wb) (nb := V.nx) (xa := xa) (xw := xw) (xp := xp) (shv := shv) (R := R) h hlt (fun h3 => by have := (dec_facts (v := .nilsl) h.G h.fits hlt h3).2.2.1; omega) hxa hsv sY lw (by omega) nVX lxY nwx h2 hw gwY (by simp only [↓sU, sD, reduceEqDiff, ↓reduceIte, reduceAdd, p8]) (by simp only [↓sU, sD, reduceEqDiff, ↓reduceIte, reduceAdd, p9]) (by simp only [↓sU, sD, reduceEqDiff, ↓reduceIte, reduceAdd, p13]) (by simp only [↓sU, sD, reduceEqDiff, ↓reduceIte, reduceAdd, p15]) (by simp only [↓sU, sD, reduceEqDiff, ↓reduceIte, reduceAdd, p16]) (by simp only [↓sU, sD, reduceEqDiff, ↓reduceIte, reduceAdd, p17]) (by simp only [↓sU, sD, reduceEqDiff, ↓reduceIte, reduceAdd, p18]) (by simp only [↓sU, sD, reduceEqDiff, ↓reduceIte, reduceAdd, p19]) (by simp only [↓sU, sD, reduceEqDiff, ↓reduceIte, reduceAdd]; try rfl)) ?_
  clear p8 p9 p13 p15 p16 p17 p18 p19
  rintro o ⟨F, inr⟩ Z ⟨rfl, q0, sZ, lwZ, _, _, q, wl2, hq, hw2, gw2, p8, p9, p13, p15, p16, _, _, _, _⟩
  simp only at q0 p8 p9 p13 p15 p16
  subst q0
  obtain rfl : q = (nodeAt g i).next.length := by omega
  try simp only [↓sU, sD, reduceEqDiff, ↓reduceIte, reduceAdd]
  refine wpc_reg ?_
  simp only [↓sU, sD, reduceEqDiff, ↓reduceIte, reduceAdd, p16, w0]
  exact ⟨k - 1, by omega, rfl, sZ, lwZ, i + 1, wl2, by omega, ⟨hw2.1, fun j hj hP => hw2.2 j hj hP.next⟩, gw2, by simp only [↓sU, sD, reduceEqDiff, ↓reduceIte, reduceAdd, p8], by simp only [↓sU, sD, reduceEqDiff, ↓reduceIte, reduceAdd, p9], by simp only [↓sU, sD, reduceEqDiff, ↓reduceIte, reduceAdd, p13], by simp only [↓sU, sD, reduceEqDiff, ↓reduceIte, reduceAdd, p15], by simp only [↓sU, sD, reduceEqDiff, ↓reduceIte, reduceAdd]⟩
/-! ### what is found -/
theorem cntL_le {j : Nat} : ∀ {l : List Int}, cntL j l ≤ l.length
  | [] => Nat.le_refl _
  | x :: l => by
    have := cntL_le (j := j) (l := l)
    show (if x = (j : Int) then 1 else 0) + cntL j l ≤ l.length + 1
    split <;> omega
theorem cntL_take {j t : Nat} {p : List Int} (h : t < p.length) : cntL j (p.take (t + 1)) = cntL j (p.take t) + if p.getD t 0 = (j : Int) then 1 else 0 := by
  have e : p.take (t + 1) = p.take t ++ [p.getD t 0] := by
    rw [List.take_add_one, List.getElem?_eq_getElem h, List.getD_eq_getElem?_getD, List.getElem?_eq_getElem h]
    rfl
  rw [e, cntL_app]
  show _ + ((if _ then 1 else 0) + 0) = _
  rfl
noncomputable def fndC : AC := (.block 12 (.loop (.seq (.seq (.reg [⟨(some 187),(.q (.mv (.t 26))),none,0⟩,
⟨(some 188),(.q (.mv (.t 24))),none,0⟩,
⟨(some 189),(.q (.lenSl (.t 188))),none,0⟩,
⟨(some 190),(.q (.bin .lss (.p .int) (.t 187) (.t 189))),none,0⟩])
(.cond (.t 190) .skip (.exit 12)))
(.seq (.block 13 (.seq (.seq (.reg [⟨(some 193),(.q (.mv (.t 24))),none,0⟩,
⟨(some 194),(.q (.mv (.t 26))),none,0⟩,
⟨(some 195),(.q (.iaddr (.slice 1) (.t 193) (.t 194))),none,0⟩,
⟨(some 196),(.q (.ld false 1 (.t 195))),none,0⟩,
⟨(some 197),(.q (.bin .lss (.p .int) (.t 196) (.c (.int .i64 (.ofNat 0))))),none,0⟩,
⟨(some 198),(.q (.mv (.t 197))),none,0⟩,
⟨(some 199),(.q (.mv (.t 24))),(some (198,false)),0⟩,
⟨(some 200),(.q (.mv (.t 26))),(some (198,false)),0⟩,
⟨(some 201),(.q (.iaddr (.slice 1) (.t 199) (.t 200))),(some (198,false)),0⟩,
⟨(some 202),(.q (.ld false 1 (.t 201))),(some (198,false)),0⟩,
⟨(some 203),(.q (.mv (.t 22))),(some (198,false)),0⟩,
⟨(some 204),(.q (.lenSl (.t 203))),(some (198,false)),0⟩,
⟨(some 205),(.q (.bin .geq (.p .int) (.t 202) (.t 204))),(some (198,false)),0⟩,
⟨(some 206),(.q (.pick (.t 198) (.c (.bool true)) (.t 205))),none,0⟩])
(.cond (.t 206) (.seq (.reg [⟨(some 6),(.q (.mv (.c (.bool false)))),none,0⟩])
.ret) .skip))
(.reg [⟨(some 207),(.q (.mv (.t 22))),none,0⟩,
⟨(some 208),(.q (.mv (.t 24))),none,0⟩,
⟨(some 209),(.q (.mv (.t 26))),none,0⟩,
⟨(some 210),(.q (.iaddr (.slice 1) (.t 208) (.t 209))),none,0⟩,
⟨(some 211),(.q (.ld false 1 (.t 210))),none,0⟩,
⟨(some 212),(.q (.iaddr (.slice 1) (.t 207) (.t 211))),none,0⟩,
⟨(some 213),(.q (.ld false 1 (.t 212))),none,0⟩,
⟨(some 214),(.q (.bin .add (.p .int) (.t 213) (.c (.int .i64 (.ofNat 1))))),none,0⟩,
⟨(some 215),(.q (.iaddr (.slice 1) (.t 207) (.t 211))),none,0⟩,
⟨none,(.x (.st 1 (.t 215) (.t 214))),none,0⟩])))
(.reg [⟨(some 191),(.q (.mv (.t 26))),none,0⟩,
⟨(some 192),(.q (.bin .add (.p .int) (.t 191) (.c (.int .i64 (.ofNat 1))))),none,0⟩,
⟨(some 26),(.q (.mv (.t 192))),none,0⟩])))))
def FdI (X0 : St) (gb tb fb N z s : Nat) (wv v : AV) (p l0 : List Int) (k : Nat) (A : Act') (X : St) : Prop := A.inr = false ∧ X0.nx ≤ X.nx ∧ (∀ c, c < X0.nx → c ≠ fb → X.h.get c = X0.h.get c) ∧ ∃ (t : Nat) (fl : List Int), t + k = p.length ∧ fl.length = N ∧ (∀ j, j < N → fl.getD j 0 = l0.getD j 0 + ((cntL j (p.take t) : Nat) : Int)) ∧ X.h.get fb = some (.cells (cells64 fl) false 0) ∧ tmpV 8 A.F = .ptr gb 0 ∧ tmpV 9 A.F = .ptr tb 0 ∧ tmpV 13 A.F = .int .i64 (z : Int) ∧ tmpV 15 A.F = wv ∧ tmpV 22 A.F = .sl fb 0 N N false ∧ tmpV 23 A.F = .int .i64 (s : Int) ∧ tmpV 24 A.F = v ∧ tmpV 26 A.F = .int .i64 (t : Int)
set_option maxHeartbeats 4000000 in
theorem fnd_ok {X0 : St} {F : Fr} {gb tb fb N z s : Nat} {wv v : AV} {p l0 : List Int} (hv : IsSl .i64 X0 v p) (hvb : ∀ c, blkOf v = some c → c ≠ fb) (lf : fb < X0.nx) (hp : ∀ j, j < p.length → 0 ≤ p.getD j 0 ∧ p.getD j 0 < (N : Int)) (hpl : p.length ≤ 1000) (h0 : l0.length = N) (hl0 : ∀ j, j < N → 0 ≤ l0.getD j 0 ∧ l0.getD j 0 ≤ 1000000000) (g0 : X0.h.get fb = some (.cells (cells64 l0) false 0))
    (p8 : tmpV 8 F = .ptr gb 0) (p9 : tmpV 9 F = .ptr tb 0) (p13 : tmpV 13 F = .int .i64 (z : Int)) (p15 : tmpV 15 F = wv) (p22 : tmpV 22 F = .sl fb 0 N N false) (p23 : tmpV 23 F = .int .i64 (s : Int)) (p24 : tmpV 24 F = v) (p26 : tmpV 26 F = .int .i64 0) :
    wpc fns fndC ⟨F, false⟩ X0 fun o A Y => o = .normal ∧ FdI X0 gb tb fb N z s wv v p l0 0 A Y := by
  unfold fndC
  refine wpc_block (wpc_loop (FdI X0 gb tb fb N z s wv v p l0) ?_ p.length _ _ ⟨rfl, Nat.le_refl _, fun _ _ _ => rfl, 0, l0, by omega, h0, fun j _ => by show _ = _ + (0 : Int); omega, g0, p8, p9, p13, p15, p22, p23, p24, p26⟩)
  clear p8 p9 p13 p15 p22 p23 p24 p26
  rintro k ⟨F, inr⟩ X ⟨q0, nX, kX, t, fl, htk, hfl, hf, gX, p8, p9, p13, p15, p22, p23, p24, p26⟩
  simp only at q0 p8 p9 p13 p15 p22 p23 p24 p26
  subst q0
  have hvX := sl_move hv nX fun c hc => kX c (sl_lowB hv hc) (hvb c hc)
  refine wss ?_
  simp only [↓sU, sD, reduceEqDiff, ↓reduceIte, reduceAdd, p24, p26, hvX.len, Int.ofNat_eq_natCast]
  by_cases hlt : t < p.length
  rotate_left
  · refine wpc_non (by simp only [↓sU, sD, reduceEqDiff, ↓reduceIte, reduceAdd, decide_eq_false (show ¬ (t : Int) < ((p.length : Nat) : Int) by omega)]) (wpc_exit ?_)
    simp only [↓sU, sD, reduceEqDiff, ↓reduceIte, reduceAdd]
    obtain rfl : k = 0 := by omega
    exact ⟨rfl, nX, kX, t, fl, htk, hfl, hf, gX, by simp only [↓sU, sD, reduceEqDiff, ↓reduceIte, reduceAdd, p8], by simp only [↓sU, sD, reduceEqDiff, ↓reduceIte, reduceAdd, p9], by simp only [↓sU, sD, reduceEqDiff, ↓reduceIte, reduceAdd, p13], by simp only [↓sU, sD, reduceEqDiff, ↓reduceIte, reduceAdd, p15], by simp only [↓sU, sD, reduceEqDiff, ↓reduceIte, reduceAdd, p22], by simp only [↓sU, sD, reduceEqDiff, ↓reduceIte, reduceAdd, p23], by simp only [↓sU, sD, reduceEqDiff, ↓reduceIte, reduceAdd, p24], by simp only [↓sU, sD, reduceEqDiff, ↓reduceIte, reduceAdd, p26]⟩
  refine wpc_yes (by simp only [↓sU, sD, reduceEqDiff, ↓reduceIte, reduceAdd, decide_eq_true (show (t : Int) < ((p.length : Nat) : Int) by omega)]) (wpc_skip ?_)
  try simp only [↓sU, sD, reduceEqDiff, ↓reduceIte, reduceAdd]
  have w0 : IntKind.i64.wrap ((t : Int) + 1) = ((t + 1 : Nat) : Int) := by rw [wrap_i64 (by omega) (by omega)]; omega
  obtain ⟨a1, a2⟩ := hp t hlt
  obtain ⟨u, hu⟩ : ∃ u : Nat, p.getD t 0 = (u : Int) := ⟨(p.getD t 0).toNat, by omega⟩
  have huN : u < N := by omega
  have hia := hvX.iaddr hlt
  have hla := hvX.ld hlt
  rw [hu] at hla
  have e0 : lenSlV (.sl fb 0 N N false) = some (.int .i64 (N : Int)) := rfl
  have hi2 := row_ia (b := fb) (o := false) huN
  have hl2 := ld64 gX (p := u) (by omega)
  have hfu := hf u huN
  have hcl := cntL_le (j := u) (l := p.take t)
  rw [List.length_take] at hcl
  have hl0u := hl0 u huN
  have w1 : IntKind.i64.wrap (fl.getD u 0 + 1) = fl.getD u 0 + 1 := wrap_i64 (by omega) (by omega)
  refine wpc_seq (wpc_block (wpc_seq (wpc_seq (wpc_reg ?_))))
  simp only [↓sU, sD, reduceEqDiff, ↓reduceIte, reduceAdd, p22, p24, p26, natOf_cast, hia, hla, e0, decide_eq_false (show ¬ (u : Int) < 0 by omega)]
  refine wpc_non (by simp only [↓sU, sD, reduceEqDiff, ↓reduceIte, reduceAdd, decide_eq_false (show ¬ (u : Int) ≥ (N : Int) by omega)]) (wpc_skip ?_)
  try simp only [↓sU, sD, reduceEqDiff, ↓reduceIte, reduceAdd]
  refine wpc_reg ?_
  simp only [↓sU, sD, reduceEqDiff, ↓reduceIte, reduceAdd, p22, p24, p26, natOf_cast, hia, hla, hi2, hl2, w1]
  refine wpo_x (v := .undef) (S1 := ⟨X.h.set fb (some (.cells (cells64 (fl.set u (fl.getD u 0 + 1))) false 0)), X.nx⟩) (fun call => by simp only [↓sU, sD, reduceEqDiff, ↓reduceIte, reduceAdd, evX_st, cells_int]; exact st64 gX (by omega)) ?_
  simp only [↓sU, sD, reduceEqDiff, ↓reduceIte, reduceAdd]
  refine wpc_reg ?_
  simp only [↓sU, sD, reduceEqDiff, ↓reduceIte, reduceAdd, p26, w0]
  refine ⟨k - 1, by omega, rfl, nX, fun c hc hne => by simp only; rw [T.get_set, if_neg hne]; exact kX c hc hne, t + 1, fl.set u (fl.getD u 0 + 1), by omega, by rw [List.length_set]; exact hfl, fun j hj => ?_, by simp only; rw [T.get_set, if_pos rfl], by simp only [↓sU, sD, reduceEqDiff, ↓reduceIte, reduceAdd, p8], by simp only [↓sU, sD, reduceEqDiff, ↓reduceIte, reduceAdd, p9], by simp only [↓sU, sD, reduceEqDiff, ↓reduceIte, reduceAdd, p13], by simp only [↓sU, sD, reduceEqDiff, ↓reduceIte, reduceAdd, p15], by simp only [↓sU, sD, reduceEqDiff, ↓reduceIte, reduceAdd, p22], by simp only [↓sU, sD, reduceEqDiff, ↓reduceIte, reduceAdd, p23], by simp only [↓sU, sD, reduceEqDiff, ↓reduceIte, reduceAdd, p24], by simp only [↓sU, sD, reduceEqDiff, ↓reduceIte, reduceAdd]⟩
  rw [getD_set (by omega), cntL_take hlt, hu]
  by_cases e : j = u
  · subst e
    rw [if_pos rfl, if_pos rfl, hfu]
    omega
  · rw [if_neg e, if_neg (by omega), hf j hj]
    omega
noncomputable def foutC : AC := (.block 10 (.loop (.seq (.seq (.reg [⟨(some 168),(.q (.mv (.t 23))),none,0⟩,
⟨(some 169),(.q (.mv (.t 13))),none,0⟩,
⟨(some 170),(.q (.bin .lss (.p .int) (.t 168) (.t 169))),none,0⟩])
(.cond (.t 170) .skip (.exit 10)))
(.seq (.block 11 (.seq (.reg [⟨(some 174),(.q (.ld true 3 (.t 8))),none,0⟩,
⟨(some 175),(.q (.ld true 2 (.t 9))),none,0⟩,
⟨(some 176),(.q (.mv (.t 23))),none,0⟩,
⟨(some 177),(.x (.call (.c (.fn 35 [] [])) [(.t 174),(.t 175),(.t 176)])),none,0⟩,
⟨(some 173),(.q (.mv (.t 177))),none,0⟩,
⟨(some 178),(.q (.extract (.t 173) 0)),none,0⟩,
⟨(some 179),(.q (.extract (.t 173) 1)),none,0⟩,
⟨(some 24),(.q (.mv (.t 178))),none,0⟩,
⟨(some 25),(.q (.mv (.t 179))),none,0⟩])
(.seq (.seq (.reg [⟨(some 180),(.q (.mv (.t 25))),none,0⟩,
⟨(some 181),(.q (.bin .neq (.p .int) (.t 180) (.c (.int .i64 (.ofNat 0))))),none,0⟩,
⟨(some 182),(.q (.mv (.t 181))),none,0⟩,
⟨(some 183),(.q (.mv (.t 24))),(some (182,false)),0⟩,
⟨(some 184),(.q (.lenSl (.t 183))),(some (182,false)),0⟩,
⟨(some 185),(.q (.bin .eql (.p .int) (.t 184) (.c (.int .i64 (.ofNat 0))))),(some (182,false)),0⟩,
⟨(some 186),(.q (.pick (.t 182) (.c (.bool true)) (.t 185))),none,0⟩])
(.cond (.t 186) (.seq (.reg [⟨(some 6),(.q (.mv (.c (.bool false)))),none,0⟩])
.ret) .skip))
(.seq (.reg [⟨(some 26),(.q (.mv (.c (.int .i64 (.ofNat 0))))),none,0⟩])
fndC))))
(.reg [⟨(some 171),(.q (.mv (.t 23))),none,0⟩,
⟨(some 172),(.q (.bin .add (.p .int) (.t 171) (.c (.int .i64 (.ofNat 1))))),none,0⟩,
⟨(some 23),(.q (.mv (.t 172))),none,0⟩])))))
def FoI (X0 : St) (gb tb fb z : Nat) (wv : AV) (g : PGame) (b : Int) (L : List (List Int)) (k : Nat) (A : Act') (X : St) : Prop := A.inr = false ∧ Same X0 X ∧ fb < X.nx ∧ ∃ (s : Nat) (fl : List Int), s + k = z ∧ fl.length = g.nodes.length ∧ (∀ j, j < g.nodes.length → fl.getD j 0 = ((fndN g b L j s : Nat) : Int)) ∧ X.h.get fb = some (.cells (cells64 fl) false 0) ∧ tmpV 8 A.F = .ptr gb 0 ∧ tmpV 9 A.F = .ptr tb 0 ∧ tmpV 13 A.F = .int .i64 (z : Int) ∧ tmpV 15 A.F = wv ∧ tmpV 22 A.F = .sl fb 0 g.nodes.length g.nodes.length false ∧ tmpV 23 A.F = .int .i64 (s : Int)
theorem tab_all {S : St} {v : AV} {g : PGame} {b : Int} {L : List (List Int)} (H : Has fns) (hv : IsSlG 1 SlE S v L) (G : GoodK g) (T : GoodT g b L) (s : Nat) : 1 ≤ (tabL g b L (s : Int)).length ∧ (tabL g b L (s : Int)).length ≤ g.nodes.length ∧ ∀ j, j < (tabL g b L (s : Int)).length → 0 ≤ (tabL g b L (s : Int)).getD j 0 ∧ (tabL g b L (s : Int)).getD j 0 < g.nodes.length := by
  have h1 := path_all (S := S) (D := decS b v L) (k := g.nodes.length) (i := 0) (s := s) H G (fun i hi hk => decS_h H G hv T hi hk) G.good.n1 (by omega)
  have e : tabL g b L (s : Int) = pathL g (decS b v L) g.nodes.length 0 s := by unfold tabL; rw [Int.toNat_natCast, path_valS (w := v)]
  rw [e]
  exact ⟨h1.1, h1.2.1, h1.2.2.1⟩
theorem fnd_le {g : PGame} {b : Int} {L : List (List Int)} {j N : Nat} (h : ∀ s : Nat, (tabL g b L (s : Int)).length ≤ N) : ∀ {s : Nat}, fndN g b L j s ≤ s * N
  | 0 => by show 0 ≤ _; omega
  | s + 1 => by
    have ih := fnd_le (j := j) h (s := s)
    have h1 := cntL_le (j := j) (l := tabL g b L (s : Int))
    have h2 := h s
    show fndN g b L j s + cntL j (tabL g b L (s : Int)) ≤ _
    rw [Nat.succ_mul]
    omega
set_option maxHeartbeats 8000000 in
theorem fout_ok {X0 X : St} {F : Fr} {gb tb fb z : Nat} {wv nv iv sv : AV} {g : PGame} {b : Int} {L : List (List Int)} {pr : Nat → Nat} {l0 : List Int} (H : Has fns) (G : GoodK g) (T : GoodT g b L) (hN : g.nodes.length ≤ 15) (hz : z ≤ 3000) (hE : sprE g b L pr = 0) (hZ : sprN g b L pr = (z : Int)) (hpr : ProdM (radM b) g pr) (hn : IsSlG 6 NodeE X0 nv g.nodes) (hi : IsSlG 2 InfoE X0 iv g.infos) (hv : IsSlG 1 SlE X0 sv L) (gG : X0.h.get gb = some (.cells [.int .i64 g.players, nv, iv] false 0)) (gT : X0.h.get tb = some (.cells [.int .i64 b, sv] false 0)) (lg : gb < X0.nx) (lt : tb < X0.nx) (hs : Same X0 X) (lf : X0.nx ≤ fb) (lfX : fb < X.nx) (h0 : l0.length = g.nodes.length) (hl0 : ∀ j, j < g.nodes.length → l0.getD j 0 = 0) (g0 : X.h.get fb = some (.cells (cells64 l0) false 0))
    (p8 : tmpV 8 F = .ptr gb 0) (p9 : tmpV 9 F = .ptr tb 0) (p13 : tmpV 13 F = .int .i64 (z : Int)) (p15 : tmpV 15 F = wv) (p22 : tmpV 22 F = .sl fb 0 g.nodes.length g.nodes.length false) (p23 : tmpV 23 F = .int .i64 0) :
    wpc fns foutC ⟨F, false⟩ X fun o A Y => o = .normal ∧ FoI X0 gb tb fb z wv g b L 0 A Y := by
  have hLl := T.len
  have hil := G.good.ni
  unfold foutC
  refine wpc_block (wpc_loop (FoI X0 gb tb fb z wv g b L) ?_ z _ _ ⟨rfl, hs, lfX, 0, l0, by omega, h0, fun j hj => by rw [hl0 j hj]; rfl, g0, p8, p9, p13, p15, p22, p23⟩)
  clear hs lfX g0 p8 p9 p13 p15 p22 p23 hl0 h0 l0
  rintro k ⟨F, inr⟩ V ⟨q0, hs, lfV, s, fl, hsk, hfl, hf, gf, p8, p9, p13, p15, p22, p23⟩
  simp only at q0 p8 p9 p13 p15 p22 p23
  subst q0
  have nV := hs.1
  refine wss ?_
  simp only [↓sU, sD, reduceEqDiff, ↓reduceIte, reduceAdd, p13, p23]
  by_cases hlt : s < z
  rotate_left
  · refine wpc_non (by simp only [↓sU, sD, reduceEqDiff, ↓reduceIte, reduceAdd, decide_eq_false (show ¬ (s : Int) < (z : Int) by omega)]) (wpc_exit ?_)
    simp only [↓sU, sD, reduceEqDiff, ↓reduceIte, reduceAdd]
    obtain rfl : k = 0 := by omega
    exact ⟨rfl, hs, lfV, s, fl, hsk, hfl, hf, gf, by simp only [↓sU, sD, reduceEqDiff, ↓reduceIte, reduceAdd, p8], by simp only [↓sU, sD, reduceEqDiff, ↓reduceIte, reduceAdd, p9], by simp only [↓sU, sD, reduceEqDiff, ↓reduceIte, reduceAdd, p13], by simp only [↓sU, sD, reduceEqDiff, ↓reduceIte, reduceAdd, p15], by simp only [↓sU, sD, reduceEqDiff, ↓reduceIte, reduceAdd, p22], by simp only [↓sU, sD, reduceEqDiff, ↓reduceIte, reduceAdd, p23]⟩
  refine wpc_yes (by simp only [↓sU, sD, reduceEqDiff, ↓reduceIte, reduceAdd, decide_eq_true (show (s : Int) < (z : Int) by omega)]) (wpc_skip ?_)
  try simp only [↓sU, sD, reduceEqDiff, ↓reduceIte, reduceAdd]
  have w0 : IntKind.i64.wrap ((s : Int) + 1) = ((s + 1 : Nat) : Int) := by rw [wrap_i64 (by omega) (by omega)]; omega
  have cV := (hs.2 gb lg).trans gG
  have tV := (hs.2 tb lt).trans gT
  have hvV := IsSlG.same (E := SlE) firm_sl hv hs
  have hE0 : walkE g b L pr (s : Int) = 0 := by unfold walkE; rw [if_neg (fun h => h hE), if_neg (by omega)]
  refine wpc_seq (wpc_block (wpc_seq (wpc_reg ?_)))
  simp only [↓sU, sD, reduceEqDiff, ↓reduceIte, reduceAdd, p8, p9, p23, lg3_a cV, lg2_a tV]
  refine wpo_call ?_
  simp only [↓sU, sD, reduceEqDiff, ↓reduceIte, reduceAdd]
  refine wpf_mono (walkP_fresh (pr := pr) H (IsSlG.same (E := NodeE) firm_node hn hs) (IsSlG.same (E := InfoE) firm_info hi hs) hvV (by omega) (by omega) (by omega) fun _ => hpr) ?_
  rintro r Y ⟨⟨hY, v, rfl, _, hpv⟩, hfr⟩
  have hpv := hpv hE0
  have hfv := fun c hc => hfr v _ c rfl hc
  rw [hE0] at hfr
  obtain ⟨t1, t2, t3⟩ := tab_all H hvV G T s
  have gfY := (hY.2 _ lfV).trans gf
  have nY := hY.1
  simp only [↓sU, sD, reduceEqDiff, ↓reduceIte, reduceAdd, ex0, ex1, hE0]
  refine wss ?_
  simp only [↓sU, sD, reduceEqDiff, ↓reduceIte, reduceAdd, hpv.len, Int.ofNat_eq_natCast, decide_eq_false (show ¬ (0 : Int) ≠ 0 by omega)]
  refine wpc_non (by simp only [↓sU, sD, reduceEqDiff, ↓reduceIte, reduceAdd, decide_eq_false (show ¬ (((tabL g b L (s : Int)).length : Nat) : Int) = 0 by omega)]) (wpc_skip ?_)
  try simp only [↓sU, sD, reduceEqDiff, ↓reduceIte, reduceAdd]
  refine wsr ?_
  simp only [↓sU, sD, reduceEqDiff, ↓reduceIte, reduceAdd]
  have hb := fun j => fnd_le (g := g) (b := b) (L := L) (j := j) (N := g.nodes.length) (fun s => (tab_all H hvV G T s).2.1) (s := s)
  have hb2 : s * g.nodes.length ≤ 3000 * 15 := Nat.mul_le_mul (by omega) hN
  refine wpc_mono (fnd_ok (X0 := Y) (gb := gb) (tb := tb) (fb := fb) (N := g.nodes.length) (z := z) (s := s) (wv := wv) (v := v) (p := tabL g b L (s : Int)) (l0 := fl) hpv (fun c hc => by have := hfv c hc; omega) (by omega) t3 (by omega) hfl (fun j hj => by rw [hf j hj]; have := hb j; omega) gfY (by simp only [↓sU, sD, reduceEqDiff, ↓reduceIte, reduceAdd, p8]) (by simp only [↓sU, sD, reduceEqDiff, ↓reduceIte, reduceAdd, p9]) (by simp only [↓sU, sD, reduceEqDiff, ↓reduceIte, reduceAdd, p13]) (by simp only [↓sU, sD, reduceEqDiff, ↓reduceIte, reduceAdd, p15]) (by simp only [↓sU, sD, reduceEqDiff, ↓reduceIte, reduceAdd, p22]) (by simp only [↓sU, sD, reduceEqDiff, ↓reduceIte, reduceAdd, p23]) (by simp only [↓sU, sD, reduceEqDiff, ↓reduceIte, reduceAdd]) (by simp only [↓sU, sD, reduceEqDiff, ↓reduceIte, reduceAdd]; try rfl)) ?_
  clear p8 p9 p13 p15 p22 p23
  rintro o ⟨F, inr⟩ Z ⟨rfl, q0, nZ, kZ, t, fl2, htk, hfl2, hf2, gZ, p8, p9, p13, p15, p22, p23, _, _⟩
  simp only at q0 p8 p9 p13 p15 p22 p23
  subst q0
  obtain rfl : t = (tabL g b L (s : Int)).length := by omega
  rw [List.take_length] at hf2
  try simp only [↓sU, sD, reduceEqDiff, ↓reduceIte, reduceAdd]
  refine wpc_reg ?_
  simp only [↓sU, sD, reduceEqDiff, ↓reduceIte, reduceAdd, p23, w0]
  refine ⟨k - 1, by omega, rfl, ⟨by omega, fun c hc => by rw [kZ c (by omega) (by omega), hY.2 c (by omega), hs.2 c hc]⟩, by omega, s + 1, fl2, by omega, hfl2, fun j hj => ?_, gZ, by simp only [↓sU, sD, reduceEqDiff, ↓reduceIte, reduceAdd, p8], by simp only [↓sU, sD, reduceEqDiff, ↓reduceIte, reduceAdd, p9], by simp only [↓sU, sD, reduceEqDiff, ↓reduceIte, reduceAdd, p13], by simp only [↓sU, sD, reduceEqDiff, ↓reduceIte, reduceAdd, p15], by simp only [↓sU, sD, reduceEqDiff, ↓reduceIte, reduceAdd, p22], by simp only [↓sU, sD, reduceEqDiff, ↓reduceIte, reduceAdd]⟩
  rw [hf2 j hj, hf j hj]
  show _ = ((fndN g b L j s + cntL j (tabL g b L (s : Int)) : Nat) : Int)
  omega
end Go.Ev.Gl

namespace Go.Ev.Gl
variable {fns : T AFn}

/-! ## DealSpreads -/
theorem bldDt {t : Nat} {F : Fr} {h : Ev.T AB} {lv : AV} (ht : tmpV t F = lv) (hc : lv.cells = some [lv]) : evQ (.build [.nilsl, .int .i64 0] [(0, 1, .t t)]) F h = some (.agg [lv, .int .i64 0]) := by
  show (osel (fillP _ (partsV F [(0, 1, .t t)])) fun cs => some (AV.agg cs)) = _
  simp only [partsV, show (Opd.t t).val F = lv from ht, fillP, hc, osel_some]
  rfl
theorem bldTt {t : Nat} {F : Fr} {h : Ev.T AB} {b : Int} (ht : tmpV t F = .int .i64 b) : evQ (.build [.int .i64 0, .nilsl] [(0, 1, .t t)]) F h = some (.agg [.int .i64 b, .nilsl]) := by
  show (osel (fillP _ (partsV F [(0, 1, .t t)])) fun cs => some (AV.agg cs)) = _
  simp only [partsV, show (Opd.t t).val F = .int .i64 b from ht, fillP, cells_int, osel_some]
  rfl
theorem getD_rep0 {n j : Nat} (h : j < n) : (List.replicate n (0 : Int)).getD j 0 = 0 := by
  rw [List.getD_eq_getElem?_getD, List.getElem?_replicate, if_pos h]
  rfl
theorem list_ext0 {l m : List Int} (h : l.length = m.length) (hg : ∀ j, j < l.length → l.getD j 0 = m.getD j 0) : l = m := by
  refine List.ext_getElem h fun j h1 h2 => ?_
  have := hg j h1
  rw [List.getD_eq_getElem?_getD, List.getD_eq_getElem?_getD, List.getElem?_eq_getElem h1, List.getElem?_eq_getElem h2] at this
  exact this
/-- a drawn table's spread -/
theorem wt_of {g : PGame} {b : Int} {L : List (List Int)} {v : AV} (hf : formE g = 0) (hN : ∀ x ∈ g.nodes, NodeOk g.players g.infos x) (hn : g.nodes.length ≤ 15) (hb : b = 1 ∨ b = 2) (hfit : fitE g b L = 0) : ∃ (pr W : Nat → Nat) (z : Nat), ProdM (radM b) g pr ∧ sprE g b L pr = 0 ∧ sprN g b L pr = (z : Int) ∧ 0 < z ∧ z ≤ 1000000000000000 ∧ (z ≤ 3000 → WtH g b L pr W z) := by
  obtain ⟨pr, P⟩ := exists_prodM (radM b) (good_of hf)
  have G := goodK_of hf
  have T := (goodT_of hfit).2
  obtain ⟨W, Mw⟩ := exists_mass L G.good
  have h9 : 1 ≤ radM b ∧ radM b ≤ 9 := by rcases hb with rfl | rfl <;> decide
  have hm := fun i (hi : i < g.nodes.length) => hN (nodeAt g i) (by
    have := List.mem_of_getElem? (nodeAt_some hi)
    exact this)
  obtain ⟨z, h1, h2, h3, h4⟩ := small_spread G h9 P hn fun i hi hk => nodeOk_sum (hm i hi) hk
  refine ⟨pr, W, z, P, ?_, ?_, h2, h3, fun h5 => ⟨G, T, P, Mw, h4, h2, h5, fun i hi hk => ?_, hn⟩⟩
  · unfold sprE spR; rw [if_pos hfit, h1]
  · unfold sprN spN; rw [if_pos hfit, h1]
  · rcases hm i hi with h | h | h
    · exact h.wts
    · have := h.kind; omega
    · have := h.kind; omega
set_option maxHeartbeats 16000000 in
theorem spreads_spec {S : St} {lv mv : AV} {dl dm : List Int} {players : Int} (H : Has fns) (hAw : ∀ S, wpf fns (.fn 32 [] []) [] S fun r S' => r = .bool true ∧ Same S S') (hl : IsSl .i64 S lv dl) (hlb : dl.length ≤ 140737488355328) (hm : IsSl .i64 S mv dm) (hmb : dm.length ≤ 140737488355328) :
    wpf fns (.fn 7 [] []) [lv, mv, .int .i64 players] S fun r S' => r = .bool true ∧ Same S S' := by
  have hmc := IsSl.cells hm
  refine wpf_fn H.f7 (by simp) ?_
  simp only [↓sU, sD, reduceEqDiff, ↓reduceIte, reduceAdd]
  refine wsr ?_
  simp only [↓sU, sD, reduceEqDiff, ↓reduceIte, reduceAdd]
  have hbd1 := fun (F : Fr) (h : Ev.T AB) (a : tmpV 27 F = mv) => bldDt (t := 27) (F := F) (h := h) a hmc
  have hib1 : isLoad (.build [.nilsl, .int .i64 0] [(0, 1, .t 27)]) = false := rfl
  refine wsr ?_
  simp only [↓stU, stD, reduceEqDiff, ↓reduceIte, reduceAdd, hbd1]
  refine wpo_box (cs := [mv, .int .i64 0]) (by simp only [↓stU, stD, reduceEqDiff, ↓reduceIte, reduceAdd]; exact cells_agg _) ?_
  intro S1 s1 n1 g1
  simp only [↓stU, stD, reduceEqDiff, ↓reduceIte, reduceAdd]
  refine wsr ?_
  simp only [↓stU, stD, reduceEqDiff, ↓reduceIte, reduceAdd]
  refine wpo_call ?_
  simp only [↓stU, stD, reduceEqDiff, ↓reduceIte, reduceAdd]
  refine wpf_mono (modK_spec H (x := players) (n := 3) (by decide) (by decide)) ?_
  rintro _ S2 ⟨s2, y, rfl, y1, y2⟩
  have wy : IntKind.i64.wrap (1 + y) = 1 + y := wrap_i64 (by omega) (by omega)
  simp only [↓stU, stD, reduceEqDiff, ↓reduceIte, reduceAdd, wy]
  refine wpo_call ?_
  simp only [↓stU, stD, reduceEqDiff, ↓reduceIte, reduceAdd]
  refine wpf_mono (gameOf_spec H (hl.same (s1.trans s2)) hlb ⟨by omega, by omega⟩ ⟨by decide, by decide⟩) ?_
  rintro _ S3 ⟨s3, g, nv, iv, rfl, hgp, hf, hgl, hN, hn3, hi3, hmv⟩
  have hlowl := fun {c} (hc : blkOf lv = some c) => sl_low hl hc
  have hlowm := fun {c} (hc : blkOf mv = some c) => sl_low hm hc
  have m2 := s2.1
  have m3 := s3.1
  try simp only [↓stU, stD, reduceEqDiff, ↓reduceIte, reduceAdd]
  refine wpo_alloc ?_
  intro S4 s4 n4 g4
  refine wpo_st (b := S3.nx) (by simp only [↓stU, stD, reduceEqDiff, ↓reduceIte, reduceAdd]) (by simp only [↓stU, stD, reduceEqDiff, ↓reduceIte, reduceAdd]; exact cells_agg _) g4 rfl rfl ?_
  intro S5 s5 n5 g5
  simp only [↓stU, stD, reduceEqDiff, ↓reduceIte, reduceAdd]
  have s35 : Same S3 S5 := s5.same s4 (Nat.le_refl _)
  have s15 := (s2.trans s3).trans s35
  have sS5 := s1.trans s15
  have gd5 : S5.h.get S.nx = some (.cells [mv, .int .i64 ((0 : Nat) : Int)] false 0) := (s15.2 _ (by omega)).trans g1
  have hd5 : DrwB S5 S.nx mv dm := ⟨by omega, ⟨0, gd5, Nat.zero_le _⟩, hm.same sS5, fun e => by have := hlowm e; omega, hmb⟩
  clear s4 g4 s5
  refine wsr ?_
  simp only [↓stU, stD, reduceEqDiff, ↓reduceIte, reduceAdd]
  refine wpo_call ?_
  simp only [↓stU, stD, reduceEqDiff, ↓reduceIte, reduceAdd]
  refine wpf_mono (draw_spec H hd5 (n := 2) (by decide) (by decide)) ?_
  rintro _ S6 ⟨x6, hd6, q, rfl, q1, q2⟩
  have wq : IntKind.i64.wrap (1 + q) = 1 + q := wrap_i64 (by omega) (by omega)
  have hbd2 := fun (F : Fr) (h : Ev.T AB) (a : tmpV 37 F = .int .i64 (1 + q)) => bldTt (t := 37) (F := F) (h := h) a
  simp only [↓stU, stD, reduceEqDiff, ↓reduceIte, reduceAdd, wq, hbd2]
  refine wpo_alloc ?_
  intro S7 s7 n7 g7
  refine wpo_st (b := S6.nx) (by simp only [↓stU, stD, reduceEqDiff, ↓reduceIte, reduceAdd]) (by simp only [↓stU, stD, reduceEqDiff, ↓reduceIte, reduceAdd]; exact cells_agg _) g7 rfl rfl ?_
  intro S8 s8 n8 g8
  simp only [↓stU, stD, reduceEqDiff, ↓reduceIte, reduceAdd]
  have s68 : Same S6 S8 := s8.same s7 (Nat.le_refl _)
  have n6 := x6.1
  have m8 := s68.1
  have m5 := s35.1
  have hd8 : DrwB S8 S.nx mv dm := hd6.move s68.1 (s68.2 _ (by omega)) fun c hc => s68.2 c (by have := hlowm hc; omega)
  have gg8 : S8.h.get S3.nx = some (.cells [.int .i64 g.players, nv, iv] false 0) := by rw [s68.2 _ (by omega), x6.2 _ (by omega) (by omega)]; exact g5
  obtain ⟨b, hb⟩ : ∃ b : Int, b = 1 + q := ⟨_, rfl⟩
  rw [← hb] at g8
  have hb12 : b = 1 ∨ b = 2 := by omega
  clear s7 g7 s8
  have k83 : ∀ c, c < S3.nx → c ≠ S.nx → S8.h.get c = S3.h.get c := fun c hc hne => by rw [s68.2 c (by omega), x6.2 c (by omega) hne]; exact s35.2 c hc
  have hgame : ∀ X' : St, S8.nx ≤ X'.nx → (∀ c, c < S8.nx → c ≠ S.nx → c ≠ S6.nx → X'.h.get c = S8.h.get c) → IsSlG 6 NodeE X' nv g.nodes ∧ IsSlG 2 InfoE X' iv g.infos := fun X' hn hk => hmv X' (by omega) fun c hc ho => by
    have hne : c ≠ S.nx := by
      rcases ho with h | h
      · omega
      · have := hlowl h; omega
    rw [hk c (by omega) hne (by omega)]
    exact k83 c hc hne
  refine wss ?_
  simp only [↓sU, sD, reduceEqDiff, ↓reduceIte, reduceAdd]
  refine wpc_mono (rows_ok (S0 := S8) (db := S.nx) (gb := S3.nx) (tb := S6.nx) (bits := b) (tv := mv) (nv := nv) (iv := iv) (dl := dm) (g := g) H (by omega) gg8 g8 (by omega) (by omega) (by omega) (by omega) (by omega) (fun e => by have := hlowm e; omega) hd8 (fun X' h1 h2 => (hgame X' h1 h2).2) (fun i hi => acts_bd hf hN hi) (infos_le hf) (by simp only [↓sU, sD, reduceEqDiff, ↓reduceIte, reduceAdd]) (by simp only [↓sU, sD, reduceEqDiff, ↓reduceIte, reduceAdd]) (by simp only [↓sU, sD, reduceEqDiff, ↓reduceIte, reduceAdd]) (by simp only [↓sU, sD, reduceEqDiff, ↓reduceIte, reduceAdd]; try rfl)) ?_
  rintro o ⟨F, inr⟩ X ⟨rfl, q0, nX, kX, _, i, pv, cs, L, hik, hLl, hL, gX, hg, hR, p7, p8, p9, _⟩
  simp only at q0 p7 p8 p9
  subst q0
  obtain rfl : i = g.infos.length := by omega
  obtain ⟨hn, hi⟩ := hgame X nX kX
  have hv : IsSlG 1 SlE X pv L := hR.is hg hLl.symm
  have ggX := (kX S3.nx (by omega) (by omega) (by omega)).trans gg8
  have hLn : L.length = g.infos.length := hLl
  have hfit : fitE g b L = 0 := fit_ok hf hN (by omega) (infos_le hf) hLn fun j hj => hL j (by omega)
  have hNl : g.nodes.length ≤ 15 := by omega
  obtain ⟨pr, W, z, P, hE, hZ, z0, z1, hwt⟩ := wt_of (v := pv) hf hN hNl hb12 hfit
  have G := goodK_of hf
  have Tg := (goodT_of hfit).2
  have hil := infos_le hf
  have sSX : Same S X := ⟨by omega, fun c hc => by
    rw [kX c (by omega) (by omega) (by omega), s68.2 c (by omega), x6.2 c (by omega) (by omega)]
    exact sS5.2 c hc⟩
  have lgX : S3.nx < X.nx := by omega
  have ltX : S6.nx < X.nx := by omega
  clear hgame k83 gg8 hd8 hmv kX hg hR hd6 g8 hd5 gd5 g5 x6 s68 s15 sS5 s35 hn3 hi3
  try simp only [↓sU, sD, reduceEqDiff, ↓reduceIte, reduceAdd]
  refine wsr ?_
  simp only [↓sU, sD, reduceEqDiff, ↓reduceIte, reduceAdd, p8, p9, lg3_a ggX, lg2_a gX]
  refine wpo_call ?_
  simp only [↓sU, sD, reduceEqDiff, ↓reduceIte, reduceAdd]
  refine wpf_mono (spreadP_spec (pr := pr) H hn hi hv (by omega) (by omega) fun _ => P) ?_
  rintro _ Y ⟨hY, rfl⟩
  rw [hE, hZ]
  simp only [↓sU, sD, reduceEqDiff, ↓reduceIte, reduceAdd, ex0, ex1]
  have nY := hY.1
  refine wss ?_
  simp only [↓sU, sD, reduceEqDiff, ↓reduceIte, reduceAdd, decide_eq_false (show ¬ (0 : Int) ≠ 0 by omega)]
  refine wpc_non (by simp only [↓sU, sD, reduceEqDiff, ↓reduceIte, reduceAdd, decide_eq_false (show ¬ (z : Int) < 1 by omega)]) (wpc_skip ?_)
  try simp only [↓sU, sD, reduceEqDiff, ↓reduceIte, reduceAdd]
  refine wss ?_
  simp only [↓sU, sD, reduceEqDiff, ↓reduceIte, reduceAdd]
  by_cases hbig : 3000 < z
  · refine wpc_yes (by simp only [↓sU, sD, reduceEqDiff, ↓reduceIte, reduceAdd, decide_eq_true (show (z : Int) > 3000 by omega)]) ?_
    refine wsr ?_
    simp only [↓sU, sD, reduceEqDiff, ↓reduceIte, reduceAdd]
    refine wpo_call ?_
    simp only [↓sU, sD, reduceEqDiff, ↓reduceIte, reduceAdd]
    refine wpf_mono (hAw _) ?_
    rintro _ Y2 ⟨rfl, h2⟩
    try simp only [↓sU, sD, reduceEqDiff, ↓reduceIte, reduceAdd]
    refine wpc_ret ?_
    simp only [↓sU, sD, reduceEqDiff, ↓reduceIte, reduceAdd]
    exact (sSX.trans hY).trans h2
  have Hw := hwt (by omega)
  refine wpc_non (by simp only [↓sU, sD, reduceEqDiff, ↓reduceIte, reduceAdd, decide_eq_false (show ¬ (z : Int) > 3000 by omega)]) (wpc_skip ?_)
  try simp only [↓sU, sD, reduceEqDiff, ↓reduceIte, reduceAdd]
  have hnY := IsSlG.same (E := NodeE) firm_node hn hY
  have hiY := IsSlG.same (E := InfoE) firm_info hi hY
  have hvY := IsSlG.same (E := SlE) firm_sl hv hY
  have ggY := (hY.2 _ lgX).trans ggX
  have gtY := (hY.2 _ ltX).trans gX
  have hN1 := G.good.n1
  refine wsr ?_
  simp only [↓stU, stD, reduceEqDiff, ↓reduceIte, reduceAdd, p8, evQ_faddr, faddr_ptr, lg3_1 ggY, hnY.len]
  refine wpo_al (evA_mk (n := g.nodes.length) (by simp only [↓stU, stD, reduceEqDiff, ↓reduceIte, reduceAdd, natOf_cast]) (by simp only [↓stU, stD, reduceEqDiff, ↓reduceIte, reduceAdd, natOf_cast]) (by unfold room; omega) (by unfold room; omega)) ?_
  intro Y1 y1' m1 d1
  rw [zeros64] at d1
  simp only [↓stU, stD, reduceEqDiff, ↓reduceIte, reduceAdd]
  have hi0 := row_ia (b := Y.nx) (o := false) hN1
  refine wsr ?_
  simp only [↓sU, sD, reduceEqDiff, ↓reduceIte, reduceAdd, nat0, hi0]
  refine wpo_x (v := .undef) (S1 := ⟨Y1.h.set Y.nx (some (.cells (cells64 ((List.replicate g.nodes.length 0).set 0 (z : Int))) false 0)), Y1.nx⟩) (fun call => by simp only [↓sU, sD, reduceEqDiff, ↓reduceIte, reduceAdd, evX_st, cells_int]; exact st64 (S := Y1) d1 (by rw [List.length_replicate]; exact hN1)) ?_
  simp only [↓sU, sD, reduceEqDiff, ↓reduceIte, reduceAdd]
  refine wss ?_
  simp only [↓sU, sD, reduceEqDiff, ↓reduceIte, reduceAdd]
  have hw0 : WlH g z pr W 0 0 ((List.replicate g.nodes.length 0).set 0 (z : Int)) := by
    refine ⟨by simp, fun j hj hP => ?_⟩
    rw [getD_set0 (by rw [List.length_replicate]; exact hN1)]
    rcases hP with h | ⟨p, k, _, _, _, h⟩
    · rw [if_pos h.symm, h]
      unfold wantN
      rw [P.zero, Hw.M.zero, Nat.div_one, Nat.mul_one]
    · omega
  refine wpc_mono (want_ok (X0 := Y) (gb := S3.nx) (tb := S6.nx) (wb := Y.nx) (z := z) (b := b) (L := L) (pr := pr) (W := W) (nv := nv) (iv := iv) (sv := pv) Hw hnY hvY ggY gtY (by omega) (by omega) ⟨by show Y.nx ≤ Y1.nx; omega, fun c hc => by simp only; rw [T.get_set, if_neg (by omega)]; exact y1'.2 c hc⟩ (Nat.le_refl _) (by show Y.nx < Y1.nx; omega) hw0 (by simp only; rw [T.get_set, if_pos rfl]) (by simp only [↓sU, sD, reduceEqDiff, ↓reduceIte, reduceAdd, p8]) (by simp only [↓sU, sD, reduceEqDiff, ↓reduceIte, reduceAdd, p9]) (by simp only [↓sU, sD, reduceEqDiff, ↓reduceIte, reduceAdd]) (by simp only [↓sU, sD, reduceEqDiff, ↓reduceIte, reduceAdd]; try rfl) (by simp only [↓sU, sD, reduceEqDiff, ↓reduceIte, reduceAdd]; try rfl)) ?_
  clear p7 p8 p9
  rintro o ⟨F, inr⟩ V ⟨rfl, q0, sV, lwV, i2, wl, hi2, hw, gw, p8, p9, p13, p15, _⟩
  simp only at q0 p8 p9 p13 p15
  subst q0
  obtain rfl : i2 = g.nodes.length := by omega
  have hnV := IsSlG.same (E := NodeE) firm_node hnY sV
  have hiV := IsSlG.same (E := InfoE) firm_info hiY sV
  have hvV := IsSlG.same (E := SlE) firm_sl hvY sV
  have ggV := (sV.2 S3.nx (by omega)).trans ggY
  have gtV := (sV.2 S6.nx (by omega)).trans gtY
  have nV := sV.1
  try simp only [↓sU, sD, reduceEqDiff, ↓reduceIte, reduceAdd]
  refine wsr ?_
  simp only [↓stU, stD, reduceEqDiff, ↓reduceIte, reduceAdd, p8, evQ_faddr, faddr_ptr, lg3_1 ggV, hnV.len]
  refine wpo_al (evA_mk (n := g.nodes.length) (by simp only [↓stU, stD, reduceEqDiff, ↓reduceIte, reduceAdd, natOf_cast]) (by simp only [↓stU, stD, reduceEqDiff, ↓reduceIte, reduceAdd, natOf_cast]) (by unfold room; omega) (by unfold room; omega)) ?_
  intro V1 v1 k1 e1
  rw [zeros64] at e1
  simp only [↓stU, stD, reduceEqDiff, ↓reduceIte, reduceAdd]
  refine wss ?_
  simp only [↓sU, sD, reduceEqDiff, ↓reduceIte, reduceAdd]
  refine wpc_mono (fout_ok (X0 := V) (gb := S3.nx) (tb := S6.nx) (fb := V.nx) (z := z) (nv := nv) (iv := iv) (sv := pv) (g := g) (b := b) (L := L) (pr := pr) (wv := .sl Y.nx 0 g.nodes.length g.nodes.length false) H G Tg hNl (by omega) hE hZ P hnV hiV hvV ggV gtV (by omega) (by omega) v1 (Nat.le_refl _) (by omega) (List.length_replicate ..) (fun j hj => getD_rep0 hj) e1 (by simp only [↓sU, sD, reduceEqDiff, ↓reduceIte, reduceAdd, p8]) (by simp only [↓sU, sD, reduceEqDiff, ↓reduceIte, reduceAdd, p9]) (by simp only [↓sU, sD, reduceEqDiff, ↓reduceIte, reduceAdd, p13]) (by simp only [↓sU, sD, reduceEqDiff, ↓reduceIte, reduceAdd, p15]) (by simp only [↓sU, sD, reduceEqDiff, ↓reduceIte, reduceAdd]; try rfl) (by simp only [↓sU, sD, reduceEqDiff, ↓reduceIte, reduceAdd]; try rfl)) ?_
  clear p8 p9 p13 p15
  rintro o ⟨F, inr⟩ Z ⟨rfl, q0, sZ, lfZ, s, fl, hsz, hfl, hfd, gf, p8, p9, p13, p15, p22, _⟩
  simp only at q0 p8 p9 p13 p15 p22
  subst q0
  obtain rfl : s = z := by omega
  have gwZ := (sZ.2 _ lwV).trans gw
  have i1 : IsSl .i64 Z (.sl V.nx 0 g.nodes.length g.nodes.length false) fl := by
    refine .inr ⟨V.nx, 0, g.nodes.length, false, cells64 fl, by rw [hfl], by omega, by omega, by unfold cellsAt; rw [gf]; rfl, fun j x hj => ?_⟩
    rw [Nat.zero_add]
    unfold cells64
    rw [List.getElem?_map, hj]
    rfl
  have i2 : IsSl .i64 Z (.sl Y.nx 0 g.nodes.length g.nodes.length false) wl := by
    refine .inr ⟨Y.nx, 0, g.nodes.length, false, cells64 wl, by rw [hw.1], by have := hw.1; omega, by have := sZ.1; omega, by unfold cellsAt; rw [gwZ]; rfl, fun j x hj => ?_⟩
    rw [Nat.zero_add]
    unfold cells64
    rw [List.getElem?_map, hj]
    rfl
  have hflw : fl = wl := by
    refine list_ext0 (by rw [hfl, hw.1]) fun j hj => ?_
    rw [hfl] at hj
    rw [hfd j hj, hw.2 j hj (PW.at_ G.good hj (by omega)), fnd_all G Tg P Hw.M (fun j hj => (Hw.dv j hj).1) hj]
    rfl
  try simp only [↓sU, sD, reduceEqDiff, ↓reduceIte, reduceAdd]
  refine wsr ?_
  simp only [↓sU, sD, reduceEqDiff, ↓reduceIte, reduceAdd, p15, p22]
  refine wpo_call ?_
  simp only [↓sU, sD, reduceEqDiff, ↓reduceIte, reduceAdd]
  refine wpf_mono (alikeI_spec H i1 i2 (by omega)) ?_
  rintro _ T1 ⟨rfl, t1⟩
  rw [decide_eq_true hflw]
  try simp only [↓sU, sD, reduceEqDiff, ↓reduceIte, reduceAdd]
  refine wpo_call ?_
  simp only [↓sU, sD, reduceEqDiff, ↓reduceIte, reduceAdd]
  refine wpf_mono (hAw _) ?_
  rintro _ T2 ⟨rfl, t2⟩
  try simp only [↓sU, sD, reduceEqDiff, ↓reduceIte, reduceAdd]
  refine wpc_ret ?_
  try simp only [↓sU, sD, reduceEqDiff, ↓reduceIte, reduceAdd]
  exact ((((sSX.trans hY).trans sV).trans sZ).trans t1).trans t2
end Go.Ev.Gl
