/- Contracts (18): rational numbers, the statements' tools, the law. -/
import Derived.Test.YtoojnpjgnnpllaaGl17
set_option maxHeartbeats 4000000
set_option linter.unusedSimpArgs false
set_option linter.unusedVariables false
namespace Go.Ev.Gl
variable {fns : T AFn}

/-! ## Counting plays, plain -/
def sumN : Nat → (Nat → Nat) → Nat
  | 0, _ => 0
  | n + 1, f => sumN n f + f n
theorem sumN_congr : ∀ {n : Nat} {f g : Nat → Nat}, (∀ i, i < n → f i = g i) → sumN n f = sumN n g
  | 0, _, _, _ => rfl
  | n + 1, f, g, h => by
    show sumN n f + f n = sumN n g + g n
    rw [sumN_congr fun i hi => h i (by omega), h n (by omega)]
theorem sumN_zero : ∀ {n : Nat}, sumN n (fun _ => 0) = 0
  | 0 => rfl
  | n + 1 => by show sumN n (fun _ => 0) + 0 = 0; rw [sumN_zero (n := n)]
theorem sumN_mul {a : Nat} {f : Nat → Nat} : ∀ {n : Nat}, sumN n (fun i => f i * a) = sumN n f * a
  | 0 => by show 0 = 0 * a; rw [Nat.zero_mul]
  | n + 1 => by
    show sumN n (fun i => f i * a) + f n * a = (sumN n f + f n) * a
    rw [sumN_mul (n := n), Nat.add_mul]
theorem sumN_one : ∀ {n : Nat}, sumN n (fun _ => 1) = n
  | 0 => rfl
  | n + 1 => by show sumN n (fun _ => 1) + 1 = n + 1; rw [sumN_one (n := n)]
theorem sumN_split {f : Nat → Nat} {a : Nat} : ∀ {b : Nat}, sumN (a + b) f = sumN a f + sumN b (fun i => f (a + i))
  | 0 => rfl
  | b + 1 => by
    show sumN (a + b) f + f (a + b) = sumN a f + (sumN b (fun i => f (a + i)) + f (a + b))
    rw [sumN_split (b := b)]
    omega
theorem sumN_blocks {f : Nat → Nat} {R : Nat} : ∀ {m : Nat}, sumN (m * R) f = sumN m (fun u => sumN R (fun d => f (u * R + d)))
  | 0 => by rw [Nat.zero_mul]; rfl
  | m + 1 => by
    rw [Nat.succ_mul, sumN_split, sumN_blocks (m := m)]
    rfl
/-- how many digits choose a child -/
theorem pick_count : ∀ {l : List Int} {k : Nat}, (∀ x ∈ l, 0 ≤ x) → sumN l.sum.toNat (fun d => if pickN l (d : Int) = k ∧ k < l.length then 1 else 0) = (l.getD k 0).toNat
  | [], k, _ => rfl
  | w :: l, k, h => by
    have hw := h w (List.mem_cons_self ..)
    have hl := fun x hx => h x (List.mem_cons_of_mem _ hx)
    have hs : 0 ≤ l.sum := by
      clear h
      induction l with
      | nil => simp
      | cons x l ih =>
        rw [List.sum_cons]
        have := hl x (List.mem_cons_self ..)
        have := ih fun y hy => hl y (List.mem_cons_of_mem _ hy)
        omega
    have e : (w :: l).sum.toNat = w.toNat + l.sum.toNat := by rw [List.sum_cons]; omega
    rw [e, sumN_split]
    have p1 : ∀ d, d < w.toNat → pickN (w :: l) (d : Int) = 0 := fun d hd => by
      show (if (d : Int) < w then 0 else pickN l ((d : Int) - w) + 1) = 0
      rw [if_pos (by omega)]
    have p2 : ∀ d, pickN (w :: l) ((w.toNat + d : Nat) : Int) = pickN l (d : Int) + 1 := fun d => by
      show (if ((w.toNat + d : Nat) : Int) < w then 0 else pickN l (((w.toNat + d : Nat) : Int) - w) + 1) = _
      rw [if_neg (by omega), show ((w.toNat + d : Nat) : Int) - w = (d : Int) by omega]
    cases k with
    | zero =>
      have a1 : sumN w.toNat (fun d => if pickN (w :: l) (d : Int) = 0 ∧ 0 < (w :: l).length then 1 else 0) = w.toNat := by
        rw [sumN_congr (g := fun _ => 1) fun d hd => by rw [if_pos ⟨p1 d hd, by simp⟩], sumN_one]
      have a2 : sumN l.sum.toNat (fun d => if pickN (w :: l) ((w.toNat + d : Nat) : Int) = 0 ∧ 0 < (w :: l).length then 1 else 0) = 0 := by
        rw [sumN_congr (g := fun _ => 0) fun d hd => by rw [if_neg (by rw [p2 d]; omega)], sumN_zero]
      rw [a1, a2]
      rfl
    | succ k =>
      have a1 : sumN w.toNat (fun d => if pickN (w :: l) (d : Int) = k + 1 ∧ k + 1 < (w :: l).length then 1 else 0) = 0 := by
        rw [sumN_congr (g := fun _ => 0) fun d hd => by rw [if_neg (by rw [p1 d hd]; omega)], sumN_zero]
      have a2 : sumN l.sum.toNat (fun d => if pickN (w :: l) ((w.toNat + d : Nat) : Int) = k + 1 ∧ k + 1 < (w :: l).length then 1 else 0) = (l.getD k 0).toNat := by
        rw [← pick_count (l := l) (k := k) hl]
        refine sumN_congr fun d hd => ?_
        rw [p2 d, List.length_cons]
        by_cases hh : pickN l (d : Int) = k ∧ k < l.length
        · rw [if_pos (by omega), if_pos hh]
        · rw [if_neg (by omega), if_neg hh]
      rw [a1, a2, Nat.zero_add]
      rfl
/-- the nodes and rests of a play -/
def trL (g : PGame) (D : Dec) : Nat → Nat → Nat → List (Nat × Nat)
  | 0, _, _ => []
  | f + 1, i, s => if (nodeAt g i).kind = 3 then [(i, s)] else (i, s) :: trL g D f ((nodeAt g i).next.getD ((decAt D (nodeAt g i)).chs (nodeAt g i) (s % (decAt D (nodeAt g i)).rad (nodeAt g i))) 0).toNat (s / (decAt D (nodeAt g i)).rad (nodeAt g i))
def visS (φ : Nat → Nat) (j : Nat) (l : List (Nat × Nat)) : Nat := (l.map fun x => if x.1 = j then φ x.2 else 0).sum
theorem visS_cons {φ : Nat → Nat} {j : Nat} {x : Nat × Nat} {l : List (Nat × Nat)} : visS φ j (x :: l) = (if x.1 = j then φ x.2 else 0) + visS φ j l := by
  unfold visS
  rw [List.map_cons, List.sum_cons]
theorem path_tr {g : PGame} {D : Dec} : ∀ {f i s : Nat}, pathL g D f i s = (trL g D f i s).map fun x => (x.1 : Int)
  | 0, _, _ => rfl
  | f + 1, i, s => by
    simp only [pathL, trL]
    split
    · rfl
    · rw [List.map_cons, path_tr (f := f)]
/-- a child is visited whenever its parent chooses it -/
theorem vis_step {g : PGame} {D : Dec} (G : GoodK g) {q k : Nat} (hq : q < g.nodes.length) (hk : k < (nodeAt g q).next.length) (hlt : ∀ i, i < g.nodes.length → (nodeAt g i).kind ≠ 3 → ∀ d, d < (decAt D (nodeAt g i)).rad (nodeAt g i) → (decAt D (nodeAt g i)).chs (nodeAt g i) d < (nodeAt g i).next.length) (hrad : ∀ i, i < g.nodes.length → (nodeAt g i).kind ≠ 3 → 0 < (decAt D (nodeAt g i)).rad (nodeAt g i)) (φ : Nat → Nat) :
    ∀ {f i s : Nat}, i < g.nodes.length → g.nodes.length ≤ f + i → visS φ ((nodeAt g q).next.getD k 0).toNat (trL g D f i s) = visS (fun r => if (decAt D (nodeAt g q)).chs (nodeAt g q) (r % (decAt D (nodeAt g q)).rad (nodeAt g q)) = k then φ (r / (decAt D (nodeAt g q)).rad (nodeAt g q)) else 0) q (trL g D f i s) + (if i = ((nodeAt g q).next.getD k 0).toNat then φ s else 0)
  | 0, i, s, hi, hf => by omega
  | f + 1, i, s, hi, hf => by
    have hkq : (nodeAt g q).kind ≠ 3 := fun h => by rw [G.fin q hq h] at hk; exact absurd hk (Nat.not_lt_zero _)
    obtain ⟨c1, c2⟩ := G.good.kids q hq k hk
    simp only [trL]
    by_cases h3 : (nodeAt g i).kind = 3
    · rw [if_pos h3, visS_cons, visS_cons]
      have hiq : i ≠ q := fun e => hkq (by rw [← e]; exact h3)
      rw [if_neg (show ¬ (i, s).1 = q from hiq)]
      show (if i = _ then φ s else 0) + 0 = 0 + 0 + _
      omega
    · rw [if_neg h3, visS_cons, visS_cons]
      have hR := hrad i hi h3
      have hd := Nat.mod_lt s hR
      have hch := hlt i hi h3 _ hd
      obtain ⟨b1, b2⟩ := G.good.kids i hi _ hch
      have ih := vis_step G hq hk hlt hrad φ (f := f) (i := ((nodeAt g i).next.getD ((decAt D (nodeAt g i)).chs (nodeAt g i) (s % (decAt D (nodeAt g i)).rad (nodeAt g i))) 0).toNat) (s := s / (decAt D (nodeAt g i)).rad (nodeAt g i)) (by omega) (by omega)
      rw [ih]
      have key : (if ((nodeAt g i).next.getD ((decAt D (nodeAt g i)).chs (nodeAt g i) (s % (decAt D (nodeAt g i)).rad (nodeAt g i))) 0).toNat = ((nodeAt g q).next.getD k 0).toNat then φ (s / (decAt D (nodeAt g i)).rad (nodeAt g i)) else 0) = (if (i, s).1 = q then (if (decAt D (nodeAt g q)).chs (nodeAt g q) ((i, s).2 % (decAt D (nodeAt g q)).rad (nodeAt g q)) = k then φ ((i, s).2 / (decAt D (nodeAt g q)).rad (nodeAt g q)) else 0) else 0) := by
        by_cases he : ((nodeAt g i).next.getD ((decAt D (nodeAt g i)).chs (nodeAt g i) (s % (decAt D (nodeAt g i)).rad (nodeAt g i))) 0).toNat = ((nodeAt g q).next.getD k 0).toNat
        · obtain ⟨rfl, hkk⟩ := G.good.only hi hch hq hk (by omega)
          rw [if_pos he, if_pos (show (i, s).1 = i from rfl), if_pos hkk]
        · rw [if_neg he]
          by_cases hiq : i = q
          · subst hiq
            rw [if_pos (show (i, s).1 = i from rfl), if_neg (fun e => he (by rw [show (decAt D (nodeAt g i)).chs (nodeAt g i) (s % (decAt D (nodeAt g i)).rad (nodeAt g i)) = k from e]))]
          · rw [if_neg (show ¬ (i, s).1 = q from hiq)]
      rw [key]
      show (if i = _ then φ s else 0) + _ = _
      omega
end Go.Ev.Gl

namespace Go.Ev.Gl
variable {fns : T AFn}

/-! ## How many seeds visit a node, plain -/
section
variable {g : PGame} {b : Int} {L : List (List Int)} {v : AV}
theorem dec_facts (G : GoodK g) (T : GoodT g b L) {i : Nat} (hi : i < g.nodes.length) (h3 : (nodeAt g i).kind ≠ 3) : (decAt (decS b v L) (nodeAt g i)).rad (nodeAt g i) = wM (radM b) g i ∧ (∀ d : Nat, (decAt (decS b v L) (nodeAt g i)).chs (nodeAt g i) d = pickN (wL g L i) (d : Int)) ∧ (wL g L i).sum = ((wM (radM b) g i : Nat) : Int) ∧ 0 < wM (radM b) g i ∧ (∀ y ∈ wL g L i, 0 ≤ y) ∧ (wL g L i).length = (nodeAt g i).next.length ∧ ∀ d : Nat, d < wM (radM b) g i → pickN (wL g L i) (d : Int) < (nodeAt g i).next.length := by
  obtain ⟨hs, h1, hlen, _⟩ := wL_facts G T hi h3
  have hp := (wM_bd (radM_bd T.b2) G hi).1
  have hpk : ∀ d : Nat, ((d : Int) < (wL g L i).sum) → pickN (wL g L i) (d : Int) < (nodeAt g i).next.length := fun d hd => by
    rw [← hlen]
    exact pickN_lt (by omega) hd
  have h0 : ∀ y ∈ wL g L i, 0 ≤ y := fun y hy => (hs.2 y hy).1
  rcases G.knd i hi with hk | hk | hk
  · have e : wL g L i = (nodeAt g i).weights := by unfold wL; rw [if_neg (by omega)]
    have e2 : wM (radM b) g i = (nodeAt g i).weights.sum.toNat := by unfold wM; rw [if_pos hk]
    have e3 : (wL g L i).sum = ((wM (radM b) g i : Nat) : Int) := by rw [e2, e]; rw [e] at h1; omega
    refine ⟨?_, fun d => ?_, e3, hp, h0, hlen, fun d hd => hpk d (by omega)⟩
    · unfold decAt; rw [if_pos hk, e2]; rfl
    · unfold decAt; rw [if_pos hk, e]; rfl
  · have e : wL g L i = L.getD (nodeAt g i).info.toNat [] := by unfold wL; rw [if_pos hk]
    have e2 : wM (radM b) g i = radM b := by unfold wM; rw [if_neg (by omega), if_pos hk]
    obtain ⟨a1, a2, a3⟩ := G.good.inf i hi hk
    have hl := T.len
    obtain ⟨_, hsum⟩ := T.shs (nodeAt g i).info.toNat (by omega)
    have e3 : (wL g L i).sum = ((wM (radM b) g i : Nat) : Int) := by rw [e2, e, hsum]
    refine ⟨?_, fun d => ?_, e3, hp, h0, hlen, fun d hd => hpk d (by omega)⟩
    · unfold decAt; rw [if_neg (by omega), e2]; rfl
    · unfold decAt; rw [if_neg (by omega), e]; rfl
  · exact absurd hk h3
/-- a function from the root down -/
theorem exists_down {g : PGame} (G : GoodG g) (F : Nat → Nat → Nat → Nat) : ∃ W : Nat → Nat, W 0 = 1 ∧ ∀ i, i < g.nodes.length → ∀ k, k < (nodeAt g i).next.length → W ((nodeAt g i).next.getD k 0).toNat = F i k (W i) := by
  have key : ∀ n : Nat, ∃ W : Nat → Nat, W 0 = 1 ∧ ∀ i, i < g.nodes.length → ∀ k, k < (nodeAt g i).next.length → (nodeAt g i).next.getD k 0 < (n : Int) → W ((nodeAt g i).next.getD k 0).toNat = F i k (W i) := by
    intro n
    induction n with
    | zero => exact ⟨fun _ => 1, rfl, fun i hi k hk h => by have := (G.kids i hi k hk).1; omega⟩
    | succ n ih =>
      obtain ⟨W, h0, h1⟩ := ih
      by_cases hn : 0 < n ∧ n < g.nodes.length
      · obtain ⟨q, k0, hq, hk0, he⟩ := parent_of G hn.1 hn.2
        refine ⟨fun j => if j = n then F q k0 (W q) else W j, by simp only; rw [if_neg (by omega)]; exact h0, fun i hi k hk h => ?_⟩
        have hb := G.kids i hi k hk
        simp only
        by_cases e : (nodeAt g i).next.getD k 0 = (n : Int)
        · obtain ⟨rfl, rfl⟩ := G.only hi hk (by omega) hk0 (by rw [e, he])
          rw [e, Int.toNat_natCast, if_pos rfl, if_neg (by omega)]
        · rw [if_neg (by omega), if_neg (by omega)]
          exact h1 i hi k hk (by omega)
      · refine ⟨W, h0, fun i hi k hk h => h1 i hi k hk ?_⟩
        have hb := G.kids i hi k hk
        omega
  obtain ⟨W, h0, h1⟩ := key g.nodes.length
  exact ⟨W, h0, fun i hi k hk => h1 i hi k hk (G.kids i hi k hk).2⟩
/-- the weights of the ways to the nodes -/
structure MassW (g : PGame) (L : List (List Int)) (W : Nat → Nat) : Prop where
  zero : W 0 = 1
  kid : ∀ i, i < g.nodes.length → ∀ k, k < (nodeAt g i).next.length → W ((nodeAt g i).next.getD k 0).toNat = W i * ((wL g L i).getD k 0).toNat
theorem exists_mass (L : List (List Int)) (G : GoodG g) : ∃ W, MassW g L W := by
  obtain ⟨W, h0, h1⟩ := exists_down G fun i k w => w * ((wL g L i).getD k 0).toNat
  exact ⟨W, h0, h1⟩
theorem vis_lt {φ : Nat → Nat} {D : Dec} (G : GoodK g) (hlt : ∀ i, i < g.nodes.length → (nodeAt g i).kind ≠ 3 → ∀ d, d < (decAt D (nodeAt g i)).rad (nodeAt g i) → (decAt D (nodeAt g i)).chs (nodeAt g i) d < (nodeAt g i).next.length) (hrad : ∀ i, i < g.nodes.length → (nodeAt g i).kind ≠ 3 → 0 < (decAt D (nodeAt g i)).rad (nodeAt g i)) {j : Nat} : ∀ {f i s : Nat}, i < g.nodes.length → j < i → visS φ j (trL g D f i s) = 0
  | 0, _, _, _, _ => rfl
  | f + 1, i, s, hi, hj => by
    simp only [trL]
    by_cases h3 : (nodeAt g i).kind = 3
    · rw [if_pos h3, visS_cons]
      have : ¬ (i, s).1 = j := by show ¬ i = j; omega
      rw [if_neg this]
      rfl
    · rw [if_neg h3, visS_cons]
      have : ¬ (i, s).1 = j := by show ¬ i = j; omega
      rw [if_neg this]
      obtain ⟨b1, b2⟩ := G.good.kids i hi _ (hlt i hi h3 _ (Nat.mod_lt s (hrad i hi h3)))
      rw [vis_lt G hlt hrad (f := f) (by omega) (by omega)]
theorem vis_root {φ : Nat → Nat} {D : Dec} (G : GoodK g) (hlt : ∀ i, i < g.nodes.length → (nodeAt g i).kind ≠ 3 → ∀ d, d < (decAt D (nodeAt g i)).rad (nodeAt g i) → (decAt D (nodeAt g i)).chs (nodeAt g i) d < (nodeAt g i).next.length) (hrad : ∀ i, i < g.nodes.length → (nodeAt g i).kind ≠ 3 → 0 < (decAt D (nodeAt g i)).rad (nodeAt g i)) {f s : Nat} (hN : 0 < g.nodes.length) : visS φ 0 (trL g D (f + 1) 0 s) = φ s := by
  simp only [trL]
  by_cases h3 : (nodeAt g 0).kind = 3
  · rw [if_pos h3, visS_cons, if_pos rfl]
    rfl
  · rw [if_neg h3, visS_cons, if_pos rfl]
    obtain ⟨b1, b2⟩ := G.good.kids 0 hN _ (hlt 0 hN h3 _ (Nat.mod_lt s (hrad 0 hN h3)))
    rw [vis_lt G hlt hrad (f := f) (by omega) (by omega)]
    rfl
/-- the sum over all seeds of what the visits are worth -/
theorem mass_sum (G : GoodK g) (T : GoodT g b L) {pr W : Nat → Nat} (P : ProdM (radM b) g pr) (M : MassW g L W) {z : Nat} (hz : ∀ j, j < g.nodes.length → pr j ∣ z) : ∀ {j : Nat}, j < g.nodes.length → ∀ φ : Nat → Nat, sumN z (fun s => visS φ j (trL g (decS b v L) g.nodes.length 0 s)) = sumN (z / pr j) φ * W j := by
  have hlt : ∀ i, i < g.nodes.length → (nodeAt g i).kind ≠ 3 → ∀ d, d < (decAt (decS b v L) (nodeAt g i)).rad (nodeAt g i) → (decAt (decS b v L) (nodeAt g i)).chs (nodeAt g i) d < (nodeAt g i).next.length := fun i hi h3 d hd => by
    obtain ⟨f1, f2, _, _, _, _, f7⟩ := dec_facts (v := v) G T hi h3
    rw [f2]
    exact f7 d (by rwa [f1] at hd)
  have hrad : ∀ i, i < g.nodes.length → (nodeAt g i).kind ≠ 3 → 0 < (decAt (decS b v L) (nodeAt g i)).rad (nodeAt g i) := fun i hi h3 => by
    obtain ⟨f1, _, _, f4, _⟩ := dec_facts (v := v) G T hi h3
    rwa [f1]
  have hN := G.good.n1
  intro j
  induction j using Nat.strongRecOn with
  | ind j ih =>
    intro hj φ
    rcases Nat.eq_zero_or_pos j with h0 | h0
    · subst h0
      rw [P.zero, M.zero, Nat.div_one, Nat.mul_one]
      obtain ⟨f, hf⟩ : ∃ f, g.nodes.length = f + 1 := ⟨g.nodes.length - 1, by omega⟩
      refine sumN_congr fun s _ => ?_
      rw [hf]
      exact vis_root G hlt hrad (by omega)
    · obtain ⟨q, k, hq, hk, he⟩ := parent_of G.good h0 hj
      have hqN : q < g.nodes.length := by omega
      have h3 : (nodeAt g q).kind ≠ 3 := fun h => by rw [G.fin q hqN h] at hk; exact absurd hk (Nat.not_lt_zero _)
      obtain ⟨f1, f2, f3, f4, f5, f6, f7⟩ := dec_facts (v := v) G T hqN h3
      have ej : ((nodeAt g q).next.getD k 0).toNat = j := by omega
      have epr := P.kid q hqN k hk
      have eW := M.kid q hqN k hk
      rw [ej] at epr eW
      have hs := ih q hq hqN fun r => if (decAt (decS b v L) (nodeAt g q)).chs (nodeAt g q) (r % (decAt (decS b v L) (nodeAt g q)).rad (nodeAt g q)) = k then φ (r / (decAt (decS b v L) (nodeAt g q)).rad (nodeAt g q)) else 0
      have h1 : sumN z (fun s => visS φ j (trL g (decS b v L) g.nodes.length 0 s)) = sumN z (fun s => visS (fun r => if (decAt (decS b v L) (nodeAt g q)).chs (nodeAt g q) (r % (decAt (decS b v L) (nodeAt g q)).rad (nodeAt g q)) = k then φ (r / (decAt (decS b v L) (nodeAt g q)).rad (nodeAt g q)) else 0) q (trL g (decS b v L) g.nodes.length 0 s)) := by
        refine sumN_congr fun s _ => ?_
        have := vis_step (D := decS b v L) G hqN hk hlt hrad φ (f := g.nodes.length) (i := 0) (s := s) hN (by omega)
        rw [ej, if_neg (by omega)] at this
        exact this
      rw [h1, hs, eW]
      obtain ⟨m, hm⟩ := hz j hj
      have hpq : 0 < pr q := P.pos (radM_bd T.b2) G hqN
      have hpj : 0 < pr j := P.pos (radM_bd T.b2) G hj
      have d1 : z / pr j = m := by rw [hm, Nat.mul_div_cancel_left _ hpj]
      have d2 : z / pr q = m * wM (radM b) g q := by rw [hm, epr, Nat.mul_assoc, Nat.mul_div_cancel_left _ hpq, Nat.mul_comm]
      rw [d1, d2, sumN_blocks, f1]
      have key : sumN m (fun u => sumN (wM (radM b) g q) (fun d => if (decAt (decS b v L) (nodeAt g q)).chs (nodeAt g q) ((u * wM (radM b) g q + d) % wM (radM b) g q) = k then φ ((u * wM (radM b) g q + d) / wM (radM b) g q) else 0)) = sumN m (fun u => φ u * ((wL g L q).getD k 0).toNat) := by
        refine sumN_congr fun u _ => ?_
        have hpc := pick_count (l := wL g L q) (k := k) f5
        rw [f3, Int.toNat_natCast] at hpc
        rw [← hpc, Nat.mul_comm (φ u), ← sumN_mul]
        refine sumN_congr fun d hd => ?_
        have m1 : (u * wM (radM b) g q + d) % wM (radM b) g q = d := by rw [Nat.mul_comm, Nat.mul_add_mod, Nat.mod_eq_of_lt hd]
        have m2 : (u * wM (radM b) g q + d) / wM (radM b) g q = u := by rw [Nat.mul_comm, Nat.mul_add_div f4, Nat.div_eq_of_lt hd, Nat.add_zero]
        rw [m1, m2, f2]
        by_cases e : pickN (wL g L q) (d : Int) = k
        · rw [if_pos e, if_pos ⟨e, by omega⟩, Nat.one_mul]
        · rw [if_neg e, if_neg (fun h => e h.1), Nat.zero_mul]
      rw [key, sumN_mul, Nat.mul_assoc, Nat.mul_comm (((wL g L q).getD k 0).toNat)]
end
end Go.Ev.Gl

namespace Go.Ev.Gl
variable {fns : T AFn}

/-! ## Small games have a spread, plain -/
def cntL (j : Nat) : List Int → Nat
  | [] => 0
  | x :: l => (if x = (j : Int) then 1 else 0) + cntL j l
theorem cnt_vis {j : Nat} : ∀ {l : List (Nat × Nat)}, cntL j (l.map fun x => (x.1 : Int)) = visS (fun _ => 1) j l
  | [] => rfl
  | x :: l => by
    rw [visS_cons, List.map_cons, ← cnt_vis (l := l)]
    show (if (x.1 : Int) = (j : Int) then 1 else 0) + _ = _
    by_cases e : x.1 = j
    · rw [if_pos e, if_pos (by omega)]
    · rw [if_neg e, if_neg (by omega)]
section
variable {g : PGame} {b : Int} {L : List (List Int)} {pr W : Nat → Nat} {M : Nat}
/-- how many of the first seeds visit a node -/
def fndN (g : PGame) (b : Int) (L : List (List Int)) (j s : Nat) : Nat := sumN s fun u => cntL j (tabL g b L ((u : Nat) : Int))
theorem fnd_all (G : GoodK g) (T : GoodT g b L) (P : ProdM (radM b) g pr) (Mw : MassW g L W) {z : Nat} (hz : ∀ j, j < g.nodes.length → pr j ∣ z) {j : Nat} (hj : j < g.nodes.length) : fndN g b L j z = z / pr j * W j := by
  have h := mass_sum (v := .nilsl) G T P Mw hz hj fun _ => 1
  rw [sumN_one] at h
  rw [← h]
  unfold fndN
  refine sumN_congr fun u _ => ?_
  unfold tabL
  rw [Int.toNat_natCast, path_tr, cnt_vis]
theorem spF_dvd (P : ProdM M g pr) (hM : 1 ≤ M ∧ M ≤ 1073741824) (G : GoodK g) : ∀ {n z : Nat}, n ≤ g.nodes.length → spF M g pr n = some z → ∀ j, j < n → (nodeAt g j).kind = 3 → pr j ∣ z
  | 0, _, _, _, j, hj, _ => absurd hj (Nat.not_lt_zero _)
  | n + 1, z, hn, h, j, hj, hk => by
    rw [spF_succ] at h
    cases h1 : spF M g pr n with
    | none => rw [h1] at h; cases h
    | some y =>
      have ih := spF_dvd P hM G (n := n) (z := y) (by omega) h1
      rw [h1] at h
      have h : (if (nodeAt g n).kind = 3 then lcmO y (pr n) else if 1000000000000000 < pr n * wM M g n then none else some y) = some z := h
      split at h
      · unfold lcmO at h
        split at h
        · cases h
        · cases h
          have hgy := Nat.gcd_dvd_left y (pr n)
          have hgp := Nat.gcd_dvd_right y (pr n)
          by_cases e : j = n
          · subst e; exact Nat.dvd_mul_left _ _
          · refine Nat.dvd_trans (ih j (by omega) hk) ?_
            obtain ⟨c, hc⟩ := hgp
            refine ⟨c, ?_⟩
            generalize hG : Nat.gcd y (pr n) = d at *
            rw [hc, ← Nat.mul_assoc, Nat.div_mul_cancel hgy]
      · split at h
        · cases h
        · cases h
          rename_i h3 _
          by_cases e : j = n
          · subst e; exact absurd hk h3
          · exact ih j (by omega) hk
/-- with all ends all nodes' products divide -/
theorem all_dvd (P : ProdM M g pr) (G : GoodK g) {z : Nat} (h : ∀ j, j < g.nodes.length → (nodeAt g j).kind = 3 → pr j ∣ z) : ∀ {n j : Nat}, j < g.nodes.length → g.nodes.length ≤ n + j → pr j ∣ z ∧ ((nodeAt g j).kind ≠ 3 → pr j * wM M g j ∣ z)
  | 0, j, hj, hn => by omega
  | n + 1, j, hj, hn => by
    by_cases h3 : (nodeAt g j).kind = 3
    · exact ⟨h j hj h3, fun e => absurd h3 e⟩
    · have hk : 0 < (nodeAt g j).next.length := by
        rcases G.knd j hj with hk | hk | hk
        · exact (G.chn j hj hk).2.1
        · exact (G.mov j hj hk).1
        · exact absurd hk h3
      obtain ⟨b1, b2⟩ := G.good.kids j hj 0 hk
      have := (all_dvd P G h (n := n) (j := ((nodeAt g j).next.getD 0 0).toNat) (by omega) (by omega)).1
      rw [P.kid j hj 0 hk] at this
      exact ⟨Nat.dvd_trans (Nat.dvd_mul_right _ _) this, fun _ => this⟩
/-- the product of all radices before a node -/
def allR (M : Nat) (g : PGame) : Nat → Nat
  | 0 => 1
  | n + 1 => allR M g n * wM M g n
theorem allR_mono {n : Nat} : ∀ {m : Nat}, n ≤ m → allR M g n ∣ allR M g m
  | 0, h => by
    obtain rfl : n = 0 := by omega
    exact Nat.dvd_refl _
  | m + 1, h => by
    by_cases e : n = m + 1
    · rw [e]; exact Nat.dvd_refl _
    · exact Nat.dvd_trans (allR_mono (n := n) (m := m) (by omega)) (Nat.dvd_mul_right _ _)
theorem pr_allR (P : ProdM M g pr) (G : GoodK g) : ∀ {j : Nat}, j < g.nodes.length → pr j ∣ allR M g j := by
  intro j
  induction j using Nat.strongRecOn with
  | ind j ih =>
    intro hj
    rcases Nat.eq_zero_or_pos j with h0 | h0
    · subst h0; rw [P.zero]; exact Nat.one_dvd _
    · obtain ⟨q, k, hq, hk, he⟩ := parent_of G.good h0 hj
      have := P.kid q (by omega) k hk
      rw [he, Int.toNat_natCast] at this
      rw [this]
      exact Nat.dvd_trans (Nat.mul_dvd_mul_right (ih q hq (by omega)) _) (allR_mono (n := q + 1) hq)
theorem allR_le {B : Nat} (hB : 1 ≤ B) (h : ∀ i, i < g.nodes.length → wM M g i ≤ B) : ∀ {n : Nat}, n ≤ g.nodes.length → allR M g n ≤ B ^ n
  | 0, _ => Nat.le_refl _
  | n + 1, hn => by
    show allR M g n * wM M g n ≤ B ^ n * B
    exact Nat.mul_le_mul (allR_le hB h (by omega)) (h n (by omega))
theorem lcm_dvd' {z p Q : Nat} (h1 : z ∣ Q) (h2 : p ∣ Q) : z / Nat.gcd z p * p ∣ Q := by
  have h := Nat.lcm_dvd h1 h2
  unfold Nat.lcm at h
  rwa [Nat.div_mul_right_comm (Nat.gcd_dvd_left z p)]
theorem spF_fits (P : ProdM M g pr) (hM : 1 ≤ M ∧ M ≤ 1073741824) (G : GoodK g) {Q : Nat} (hQ : allR M g g.nodes.length ∣ Q) (h0 : 0 < Q) (hle : Q ≤ 1000000000000000) : ∀ {n : Nat}, n ≤ g.nodes.length → ∃ z, spF M g pr n = some z ∧ z ∣ Q
  | 0, _ => ⟨1, rfl, Nat.one_dvd _⟩
  | n + 1, hn => by
    obtain ⟨y, h1, h2⟩ := spF_fits P hM G hQ h0 hle (n := n) (by omega)
    have hd : pr n ∣ Q := Nat.dvd_trans (pr_allR P G (by omega)) (Nat.dvd_trans (allR_mono (by omega)) hQ)
    have hd2 : pr n * wM M g n ∣ Q := Nat.dvd_trans (Nat.mul_dvd_mul_right (pr_allR P G (by omega)) _) (Nat.dvd_trans (allR_mono (n := n + 1) (by omega)) hQ)
    rw [spF_succ, h1]
    show ∃ z, (if (nodeAt g n).kind = 3 then lcmO y (pr n) else if 1000000000000000 < pr n * wM M g n then none else some y) = some z ∧ z ∣ Q
    split
    · have hl := lcm_dvd' h2 hd
      have := Nat.le_of_dvd h0 hl
      refine ⟨y / Nat.gcd y (pr n) * pr n, ?_, hl⟩
      unfold lcmO
      rw [if_neg (by omega)]
    · have := Nat.le_of_dvd h0 hd2
      rw [if_neg (by omega)]
      exact ⟨y, rfl, h2⟩
theorem allR_pos (hM : 1 ≤ M ∧ M ≤ 1073741824) (G : GoodK g) : ∀ {n : Nat}, n ≤ g.nodes.length → 0 < allR M g n
  | 0, _ => Nat.one_pos
  | n + 1, hn => Nat.mul_pos (allR_pos hM G (n := n) (by omega)) (wM_bd hM G (by omega)).1
/-- a small game has a spread, and all products divide it -/
theorem small_spread (G : GoodK g) (hM : 1 ≤ M ∧ M ≤ 9) (P : ProdM M g pr) (hn : g.nodes.length ≤ 15) (hw : ∀ i, i < g.nodes.length → (nodeAt g i).kind = 1 → (nodeAt g i).weights.sum ≤ 9) : ∃ z : Nat, spF M g pr g.nodes.length = some z ∧ 0 < z ∧ z ≤ 1000000000000000 ∧ ∀ j, j < g.nodes.length → pr j ∣ z ∧ ((nodeAt g j).kind ≠ 3 → pr j * wM M g j ∣ z) := by
  have hM' : 1 ≤ M ∧ M ≤ 1073741824 := by omega
  have h9 : ∀ i, i < g.nodes.length → wM M g i ≤ 9 := fun i hi => by
    unfold wM
    split
    · rename_i h; have := hw i hi h; omega
    · split <;> omega
  have hle : allR M g g.nodes.length ≤ 1000000000000000 := by
    refine Nat.le_trans (allR_le (by decide) h9 (Nat.le_refl _)) (Nat.le_trans (Nat.pow_le_pow_right (by decide) hn) ?_)
    decide
  obtain ⟨z, h1, h2⟩ := spF_fits P hM' G (Nat.dvd_refl _) (allR_pos hM' G (Nat.le_refl _)) hle (Nat.le_refl _)
  obtain ⟨a, c, _⟩ := spF_some P hM' G (Nat.le_refl _) h1
  have hd := spF_dvd P hM' G (Nat.le_refl _) h1
  exact ⟨z, h1, a, c, fun j hj => all_dvd P G hd (n := g.nodes.length) hj (by omega)⟩
end
theorem sum_le3 : ∀ {l : List Int}, (∀ w ∈ l, 1 ≤ w ∧ w ≤ 3) → l.sum ≤ 3 * ((l.length : Nat) : Int)
  | [], _ => by simp
  | x :: l, h => by
    have h1 := h x (List.mem_cons_self ..)
    have h2 := sum_le3 fun y hy => h y (List.mem_cons_of_mem _ hy)
    rw [List.sum_cons, List.length_cons]
    omega
theorem nodeOk_sum {ps : Int} {I : List PInfo} {x : PNode} (h : NodeOk ps I x) (hk : x.kind = 1) : x.weights.sum ≤ 9 := by
  rcases h with h | h | h
  · have := h.kind; omega
  · have := sum_le3 h.wts
    have := h.n2
    have := h.len
    omega
  · have := h.kind; omega
end Go.Ev.Gl

namespace Go.Ev.Gl
variable {fns : T AFn}

/-! ## Drawn tables fit, plain -/
theorem firstN_ne {l : List PNode} {i : Nat} : ∀ {s : Nat}, firstN l s i ≠ 0 → ∃ x ∈ l, x.kind = 2 ∧ x.info = (i : Int) := by
  induction l with
  | nil => intro s h; exact absurd rfl h
  | cons x l ih =>
    intro s h
    unfold firstN at h
    by_cases e : x.kind = 2 ∧ x.info = (i : Int)
    · exact ⟨x, List.mem_cons_self .., e⟩
    · rw [if_neg e] at h
      obtain ⟨y, hy, hh⟩ := ih h
      exact ⟨y, List.mem_cons_of_mem _ hy, hh⟩
theorem info_used {g : PGame} (h : formE g = 0) {i : Nat} (hi : i < g.infos.length) : ∃ x ∈ g.nodes, x.kind = 2 ∧ x.info = (i : Int) := by
  unfold formE at h
  split at h
  · cases h
  split at h
  · rename_i h1; exact absurd h h1
  split at h
  · cases h
  split at h
  · cases h
  split at h
  · cases h
  unfold setsE at h
  split at h
  · cases h
  split at h
  · cases h
  rename_i h0
  refine firstN_ne (s := 0) fun e => h0 ?_
  unfold firstsL
  exact List.mem_map.2 ⟨i, List.mem_range.2 hi, by rw [e]; rfl⟩
theorem acts_bd {g : PGame} (h : formE g = 0) (hN : ∀ x ∈ g.nodes, NodeOk g.players g.infos x) {i : Nat} (hi : i < g.infos.length) : 1 ≤ (infoAt g (i : Int)).actions ∧ (infoAt g (i : Int)).actions ≤ 3 := by
  obtain ⟨x, hx, hk, he⟩ := info_used h hi
  rcases hN x hx with h1 | h1 | h1
  · have := h1.kind; omega
  · have := h1.kind; omega
  · have h2 := h1.at_
    rw [he, Int.toNat_natCast] at h2
    have h3 : infoAt g (i : Int) = ⟨x.player, ((x.next.length : Nat) : Int)⟩ := by
      unfold infoAt
      rw [Int.toNat_natCast, List.getD_eq_getElem?_getD, h2]
      rfl
    rw [h3]
    have := h1.n1
    have := h1.n2
    exact ⟨by show 1 ≤ ((x.next.length : Nat) : Int); omega, by show ((x.next.length : Nat) : Int) ≤ 3; omega⟩
structure RowOk (M n : Nat) (l : List Int) : Prop where
  len : l.length = n
  pos : ∀ x ∈ l, 0 ≤ x
  sum : l.sum = (M : Int)
theorem sum_set : ∀ {l : List Int} {k : Nat} {w : Int}, k < l.length → (l.set k (l.getD k 0 + w)).sum = l.sum + w
  | [], k, _, h => absurd h (Nat.not_lt_zero _)
  | x :: l, 0, w, _ => by
    show (List.sum ((x + w) :: l)) = _
    rw [List.sum_cons, List.sum_cons]
    omega
  | x :: l, k + 1, w, h => by
    show (List.sum (x :: l.set k (l.getD k 0 + w))) = _
    rw [List.sum_cons, List.sum_cons, sum_set (by simpa using h)]
    omega
theorem getD_mem {l : List Int} {k : Nat} (h : k < l.length) : l.getD k 0 ∈ l := by
  rw [List.getD_eq_getElem?_getD, List.getElem?_eq_getElem h]
  exact List.getElem_mem h
theorem sum_nn : ∀ {l : List Int}, (∀ x ∈ l, 0 ≤ x) → 0 ≤ l.sum
  | [], _ => by simp
  | x :: l, h => by
    have h1 := h x (List.mem_cons_self ..)
    have h2 := sum_nn fun y hy => h y (List.mem_cons_of_mem _ hy)
    rw [List.sum_cons]
    omega
theorem le_sumNN : ∀ {l : List Int}, (∀ x ∈ l, 0 ≤ x) → ∀ x ∈ l, x ≤ l.sum
  | [], _, x, hx => by cases hx
  | y :: l, h, x, hx => by
    have h1 := h y (List.mem_cons_self ..)
    have h2 := sum_nn fun z hz => h z (List.mem_cons_of_mem _ hz)
    rw [List.sum_cons]
    rcases List.mem_cons.1 hx with rfl | hx
    · omega
    · have := le_sumNN (fun z hz => h z (List.mem_cons_of_mem _ hz)) x hx
      omega
theorem RowOk.sh {M n : Nat} {l : List Int} (h : RowOk M n l) (h1 : 1 ≤ n) (h2 : n ≤ 10) : shE M l = 0 := by
  unfold shE
  have hl := h.len
  rw [if_neg (by omega), if_neg, if_neg (by rw [h.sum]; exact fun h => h rfl)]
  rintro ⟨x, hx, hh⟩
  have := h.pos x hx
  have h3 := le_sumNN h.pos x hx
  rw [h.sum] at h3
  omega
theorem shsE_ok {M : Nat} : ∀ {L : List (List Int)}, (∀ l ∈ L, shE M l = 0) → shsE M L = 0
  | [], _ => rfl
  | l :: L, h => by
    have h1 := h l (List.mem_cons_self ..)
    show (if shE M l ≠ 0 then shE M l else shsE M L) = 0
    rw [if_neg (fun e => e h1)]
    exact shsE_ok fun x hx => h x (List.mem_cons_of_mem _ hx)
theorem fit_ok {g : PGame} {b : Int} {L : List (List Int)} (h : formE g = 0) (hN : ∀ x ∈ g.nodes, NodeOk g.players g.infos x) (hb : 1 ≤ b ∧ b ≤ 30) (hi : g.infos.length ≤ 200) (hl : L.length = g.infos.length) (hr : ∀ j, j < L.length → RowOk (radM b) (infoAt g (j : Int)).actions.toNat (L.getD j [])) : fitE g b L = 0 := by
  have ha := fun {j : Nat} (hj : j < L.length) => acts_bd h hN (i := j) (by omega)
  refine fitE_e h ?_ hl fun j hj => ?_
  · unfold tabE
    rw [if_neg (by omega), if_neg (by omega)]
    refine shsE_ok fun l hm => ?_
    obtain ⟨j, hj, rfl⟩ := List.mem_iff_getElem.1 hm
    have := hr j hj
    rw [List.getD_eq_getElem?_getD, List.getElem?_eq_getElem hj] at this
    have h1 := ha hj
    exact RowOk.sh this (by omega) (by omega)
  · have := (hr j hj).len
    have h1 := ha hj
    omega
theorem infos_le {g : PGame} (h : formE g = 0) : g.infos.length ≤ 200 := by
  unfold formE at h
  split at h
  · cases h
  rename_i hb
  unfold badG at hb
  omega
end Go.Ev.Gl

namespace Go.Ev.Gl
variable {fns : T AFn}

/-! ## The drawn table -/
end Go.Ev.Gl

namespace Go.Ev.Gl
variable {fns : T AFn}

/-! ## How often each node is wanted -/
def wantN (z : Nat) (pr W : Nat → Nat) (j : Nat) : Nat := z / pr j * W j
section
variable {g : PGame} {b : Int} {L : List (List Int)} {pr W : Nat → Nat} {z : Nat}
/-- what has been counted already -/
def PW (g : PGame) (i q j : Nat) : Prop := j = 0 ∨ ∃ p k, p < g.nodes.length ∧ k < (nodeAt g p).next.length ∧ (nodeAt g p).next.getD k 0 = (j : Int) ∧ (p < i ∨ (p = i ∧ k < q))
theorem PW.at_ {i j q : Nat} (G : GoodG g) (hj : j < g.nodes.length) (h : j ≤ i) : PW g i q j := by
  rcases Nat.eq_zero_or_pos j with h0 | h0
  · exact .inl h0
  · obtain ⟨p, k, hp, hk, he⟩ := parent_of G h0 hj
    exact .inr ⟨p, k, by omega, hk, he, .inl (by omega)⟩
theorem PW.next {i j : Nat} (h : PW g (i + 1) 0 j) : PW g i (nodeAt g i).next.length j := by
  rcases h with h | ⟨p, k, h1, h2, h3, h4⟩
  · exact .inl h
  · refine .inr ⟨p, k, h1, h2, h3, ?_⟩
    by_cases e : p = i
    · subst e; exact .inr ⟨rfl, h2⟩
    · exact .inl (by omega)
theorem PW.kid {i j q : Nat} (h : PW g i (q + 1) j) : PW g i q j ∨ (nodeAt g i).next.getD q 0 = (j : Int) := by
  rcases h with h | ⟨p, k, h1, h2, h3, h4⟩
  · exact .inl (.inl h)
  · by_cases e : p = i ∧ k = q
    · obtain ⟨rfl, rfl⟩ := e
      exact .inr h3
    · exact .inl (.inr ⟨p, k, h1, h2, h3, by omega⟩)
end
end Go.Ev.Gl

namespace Go.Ev.Gl
variable {fns : T AFn}

/-! ## All nodes' wants, and what is found -/
/-! ### what is found -/
theorem tab_all {S : St} {v : AV} {g : PGame} {b : Int} {L : List (List Int)} (H : Has fns) (hv : IsSlG 1 SlE S v L) (G : GoodK g) (T : GoodT g b L) (s : Nat) : 1 ≤ (tabL g b L (s : Int)).length ∧ (tabL g b L (s : Int)).length ≤ g.nodes.length ∧ ∀ j, j < (tabL g b L (s : Int)).length → 0 ≤ (tabL g b L (s : Int)).getD j 0 ∧ (tabL g b L (s : Int)).getD j 0 < g.nodes.length := by
  have h1 := path_all (S := S) (D := decS b v L) (k := g.nodes.length) (i := 0) (s := s) H G (fun i hi hk => decS_h H G hv T hi hk) G.good.n1 (by omega)
  have e : tabL g b L (s : Int) = pathL g (decS b v L) g.nodes.length 0 s := by unfold tabL; rw [Int.toNat_natCast, path_valS (w := v)]
  rw [e]
  exact ⟨h1.1, h1.2.1, h1.2.2.1⟩
end Go.Ev.Gl

namespace Go.Ev.Gl
variable {fns : T AFn}

/-! ## DealSpreads -/
theorem bldDt {t : Nat} {F : Fr} {h : Ev.T AB} {lv : AV} (ht : tmpV t F = lv) (hc : lv.cells = some [lv]) : evQ (.build [.nilsl, .int .i64 0] [(0, 1, .t t)]) F h = some (.agg [lv, .int .i64 0]) := by
  show (osel (fillP _ (partsV F [(0, 1, .t t)])) fun cs => some (AV.agg cs)) = _
  simp only [partsV, show (Opd.t t).val F = lv from ht, fillP, hc, osel_some]
  rfl
theorem getD_rep0 {n j : Nat} (h : j < n) : (List.replicate n (0 : Int)).getD j 0 = 0 := by
  rw [List.getD_eq_getElem?_getD, List.getElem?_replicate, if_pos h]
  rfl
end Go.Ev.Gl
