import Derived.Test.YtoojnpjgnnpllaaGl15
open Nat renaming reduceEqDiff → rE, reduceAdd → rA
set_option maxHeartbeats 16000000
set_option linter.unusedSimpArgs false
set_option linter.unusedVariables false
namespace Go.Ev.Gl
variable {fns : T eJ}
noncomputable def aKX : List AO := [mt 64 0,
mt 65 0,
om 66 2 (.nilchk (.t 65)),
om 67 6 (.faddr 2 (.t 66)),
om 68 14 (ld 67),
mt 69 0,
om 70 32 (.nilchk (.t 69)),
om 71 96 (.faddr 2 (.t 70)),
om 72 224 (ld 71),
om 73 480 (.lenSl (.t 72)),
om 74 992 (bi .sub (.t 73) (ci 1)),
om 75 2046 (.slc (.slice 4) (.t 68) none (some (.t 74)) none),
om 76 4095 (.nilchk (.t 64)),
om 77 8191 (.faddr 2 (.t 76))]
def yG (m : Mk) (info : Int) : Prop := ∃ x ∈ m.nodes, x.kind = 2 ∧ x.info = info
def DpI (mb : Nat) (X : St) (m : Mk) (info : Int) (k : Nat) (A : bT) (Y : St) : Prop := A.inr = false ∧ Y = X ∧ ∃ i : Nat, i + k = m.nodes.length ∧ (∀ j x, j < i → m.nodes[j]? = some x → ¬ (x.kind = 2 ∧ x.info = info)) ∧ aC 0 A.F = .ptr mb 0 ∧ aC 1 A.F = .int .i64 info ∧ aC 6 A.F = .int .i64 (i : Int)
theorem aGJ {P : Nat → Prop} {S0 X : St} {mb db : Nat} {m : Mk} {LV : List (Int × Int × Int)} {pl info : Int} (H : Has fns) (hM : kL P S0 X mb db m LV) (h0 : 0 ≤ info) (hvl : m.views.length = m.infos.length) (hi : m.infos.length ≤ 100000) (hnl : m.nodes.length ≤ 100000) :
  iM fns (.fn 130 [] []) [.ptr mb 0, .int .i64 info, .int .i64 pl] X fun _ Z => ((pl < 0 ∨ info ≠ ((m.infos.length : Nat) : Int) - 1 ∨ yG m info) ∧ Z = X) ∨ (0 ≤ pl ∧ info = ((m.infos.length : Nat) : Int) - 1 ∧ ¬ yG m info ∧ ∃ va' ia', kL P S0 Z mb db { m with va := va', ia := ia', views := m.views.dropLast, infos := m.infos.dropLast } LV ∧ eO mb db m X { m with va := va', ia := ia', views := m.views.dropLast, infos := m.infos.dropLast } Z) := by
 have f9 := cS (p := 9) hM.g rfl
 have f8 := cS (p := 8) hM.g rfl
 have hil := hM.p.inf.len
 have wI : IntKind.i64.wrap (((m.infos.length : Nat) : Int) - 1) = ((m.infos.length : Nat) : Int) - 1 := wrap_i64 (by omega) (by omega)
 refine cV H.f130 (by simp) ?_
 simp only [↓sU,sD,rE,↓reduceIte,rA]
 refine jH ?_
 by_cases hp : pl < 0
 ·simp only [↓sU,sD,rE,↓reduceIte,rA, Ad hp]
  refine aY (by simp only [↓sU,sD,rE,↓reduceIte,rA]) (bD ?_)
  simp only [↓sU,sD,rE,↓reduceIte,rA]
  exact .inl (.inl hp)
 by_cases hn : info = ((m.infos.length : Nat) : Int) - 1
 rotate_left
 ·simp only [↓sU,sD,rE,↓reduceIte,rA, Aa hp, aS, aR, aA, aB, f9, hil, wI]
  refine aY (by simp only [↓sU,sD,rE,↓reduceIte,rA, Ad (show info ≠ ((m.infos.length : Nat) : Int) - 1 from hn)]) (bD ?_)
  simp only [↓sU,sD,rE,↓reduceIte,rA]
  exact .inl (.inr (.inl hn))
 simp only [↓sU,sD,rE,↓reduceIte,rA, Aa hp, aS, aR, aA, aB, f9, hil, wI]
 refine aT (by simp only [↓sU,sD,rE,↓reduceIte,rA, Aa (show ¬ info ≠ ((m.infos.length : Nat) : Int) - 1 from fun h => h hn)]) (aN ?_)
 try simp only [↓sU,sD,rE,↓reduceIte,rA]
 obtain ⟨n, rfl⟩ : ∃ n : Nat, info = (n : Int) := ⟨info.toNat, by omega⟩
 have hin : m.infos.length = n + 1 := by omega
 have hvn : m.views.length = n + 1 := by omega
 refine aD (bN (Q := fun o A' Z => (o = .normal ∧ A'.inr = false ∧ Z = X ∧ ¬ yG m (n : Int) ∧ aC 0 A'.F = .ptr mb 0 ∧ aC 1 A'.F = .int .i64 (n : Int)) ∨ (o = .ret ∧ Z = X ∧ yG m (n : Int))) (aD (aP ?_)) ?_)
 ·simp only [↓sU,sD,rE,↓reduceIte,rA]
  refine aU (cI (DpI mb X m (n : Int)) ?_ m.nodes.length _ _ ⟨rfl, rfl, 0, by omega, fun j x hj => absurd hj (Bv j), by simp only [↓sU,sD,rE,↓reduceIte,rA], by simp only [↓sU,sD,rE,↓reduceIte,rA], by simp only [↓sU,sD,rE,↓reduceIte,rA]; try rfl⟩)
  rintro k ⟨F, inr⟩ Y ⟨q0, hYX, i, hik, hno, p0, p1, p6⟩
  simp only at q0 p0 p1 p6
  subst q0
  rw [hYX]
  clear hYX Y
  refine jH ?_
  simp only [↓sU,sD,rE,↓reduceIte,rA, p0, p6, aS, aR, aA, aB, f8, hM.p.nod.len]
  by_cases hlt : i < m.nodes.length
  rotate_left
  ·refine aT (by simp only [↓sU,sD,rE,↓reduceIte,rA, Aa (show ¬ (i : Int) < ((m.nodes.length : Nat) : Int) by omega)]) (cC ?_)
   simp only [↓sU,sD,rE,↓reduceIte,rA]
   refine .inl ⟨?_, p0, p1⟩
   rintro ⟨x, hx, hk⟩
   obtain ⟨j, hj⟩ := List.mem_iff_getElem?.1 hx
   exact hno j x (by have := (Ai.1 hj).1; omega) hj hk
  refine aY (by simp only [↓sU,sD,rE,↓reduceIte,rA, Ad (show (i : Int) < ((m.nodes.length : Nat) : Int) by omega)]) (aN ?_)
  try simp only [↓sU,sD,rE,↓reduceIte,rA]
  have hvi : m.nodes[i]? = some m.nodes[i] := Ab hlt
  have hN : aM 6 cL X m.na m.nodes := hM.p.nod.is fun e a ⟨xa, xw, xp, h1, h2, h3, h4, _⟩ => ⟨xa, xw, xp, h1, h2, h3, h4⟩
  obtain ⟨_, bx, qx, hiax, hbx, _, ⟨xa, xw, xp, rfl, hxa, hxw, hxp⟩, hldx, hfx⟩ := aM.at hN (by decide) hvi
  have l0 := hfx 0 _ rfl
  have l2 := hfx 2 _ rfl
  have w1 : IntKind.i64.wrap ((i : Int) + 1) = ((i + 1 : Nat) : Int) := by rw [wrap_i64 (by omega) (by omega)]; omega
  have again : ¬ ((m.nodes[i]).kind = 2 ∧ (m.nodes[i]).info = (n : Int)) → ∀ {F' : Fr}, aC 0 F' = .ptr mb 0 → aC 1 F' = .int .i64 (n : Int) → aC 6 F' = .int .i64 (((i + 1 : Nat)) : Int) → ∃ x < k, DpI mb X m (n : Int) x ⟨F', false⟩ X := fun hne {F'} a0 a1 a6 => ⟨k - 1, by omega, rfl, rfl, i + 1, by omega, fun j x hj hx => by
   by_cases e : j = i
   ·subst e; rw [hvi] at hx; cases hx; exact hne
   ·exact hno j x (by omega) hx, a0, a1, a6⟩
  refine aD (aU (aD (aP ?_)))
  by_cases c1 : (m.nodes[i]).kind = 2
  rotate_left
  ·simp only [↓sU,sD,rE,↓reduceIte,rA, p0, p6, aS, aR, aA, aB, f8, aG, hiax, l0, Aa c1]
   refine aT (by simp only [↓sU,sD,rE,↓reduceIte,rA]) (aN ?_)
   try simp only [↓sU,sD,rE,↓reduceIte,rA]
   refine aP ?_
   simp only [↓sU,sD,rE,↓reduceIte,rA, p6, w1]
   exact again (fun h => c1 h.1) (by simp only [↓sU,sD,rE,↓reduceIte,rA, p0]) (by simp only [↓sU,sD,rE,↓reduceIte,rA, p1]) (by simp only [↓sU,sD,rE,↓reduceIte,rA])
  simp only [↓sU,sD,rE,↓reduceIte,rA, p0, p1, p6, aS, aR, aA, aB, f8, aG, hiax, l0, l2, Ad c1]
  by_cases c2 : (m.nodes[i]).info = (n : Int)
  ·refine aY (by simp only [↓sU,sD,rE,↓reduceIte,rA, Ad c2]) (bD ?_)
   simp only [↓sU,sD,rE,↓reduceIte,rA]
   exact .inr ⟨_, Bt hlt, c1, c2⟩
  ·refine aT (by simp only [↓sU,sD,rE,↓reduceIte,rA, Aa c2]) (aN ?_)
   try simp only [↓sU,sD,rE,↓reduceIte,rA]
   refine aP ?_
   simp only [↓sU,sD,rE,↓reduceIte,rA, p6, w1]
   exact again (fun h => c2 h.2) (by simp only [↓sU,sD,rE,↓reduceIte,rA, p0]) (by simp only [↓sU,sD,rE,↓reduceIte,rA, p1]) (by simp only [↓sU,sD,rE,↓reduceIte,rA])
 rintro o ⟨F, inr⟩ Z (⟨rfl, q0, hZX, hno, p0, p1⟩ | ⟨rfl, hZX, hu⟩)
 rotate_left
 ·simp only [↓sU,sD,rE,↓reduceIte,rA]
  exact .inl ⟨.inr (.inr hu), hZX⟩
 simp only at q0 p0 p1
 subst q0
 rw [hZX]
 clear hZX Z
 try simp only [↓sU,sD,rE,↓reduceIte,rA]
 obtain ⟨ia', e1, aI, bI⟩ := hM.p.inf.shrink hin
 obtain ⟨kP, kM⟩ := hM.p.pushI (X' := X) (Af _) (fun _ _ _ => rfl) (fun c hc => .inl (by rw [← bI]; exact hc)) aI
 have hsl := fun (F : Fr) (h : aC 59 F = .int .i64 (n : Int)) => e1 F (.t 59) (by show eX (aC 59 F) = _; rw [h]; exact aG _ _)
 refine cF ?_
 simp only [↓sU,sD,rE,↓reduceIte,rA, p0, p1, aS, aR, aA, aB, f9, hsl]
 refine fX (v := .undef) (S1 := ⟨X.h.set mb (some (.cells (dL db { m with ia := ia', infos := m.infos.dropLast }) false 0)), X.nx⟩) (fun call => by simp only [↓sU,sD,rE,↓reduceIte,rA, dW, aI.cells]; exact stc (cs := dL db m) (p := 9) (S := X) hM.g (show 9 < 10 by omega)) ?_
 simp only [↓sU,sD,rE,↓reduceIte,rA]
 obtain ⟨Z, hZ⟩ : ∃ Z : St, Z = ⟨X.h.set mb (some (.cells (dL db { m with ia := ia', infos := m.infos.dropLast }) false 0)), X.nx⟩ := ⟨_, rfl⟩
 have hMZ : kL P S0 Z mb db { m with ia := ia', infos := m.infos.dropLast } LV := kP.put (by rw [hZ]; simp only; rw [T.get_set, if_pos rfl]) (by rw [hZ]; exact Af _) fun c _ hne => by rw [hZ]; simp only; rw [T.get_set, if_neg hne]
 have kZ : eO mb db m X { m with ia := ia', infos := m.infos.dropLast } Z := kM.trans (by rw [hZ]; exact eO.put)
 rw [← hZ]
 have f2 := cS (p := 2) hMZ.g rfl
 have hvn' : (({ m with ia := ia', infos := m.infos.dropLast } : Mk).views).length = n + 1 := hvn
 have hvlen := hMZ.p.vw.len
 have sva := hMZ.p.vw.self
 rw [hvn'] at hvlen
 have wV : IntKind.i64.wrap (((n + 1 : Nat) : Int) - 1) = (n : Int) := by rw [wrap_i64 (by omega) (by omega)]; omega
 have hM2 : kL P S0 ⟨Z.h, Z.nx + 15⟩ mb db { m with ia := ia', infos := m.infos.dropLast } LV := hMZ.same (Same.nx Z 15)
 obtain ⟨va', e2, aV, bV⟩ := hM2.p.vw.shrink hvn'
 obtain ⟨kP2, kM2⟩ := hM2.p.pushV (X' := ⟨Z.h, Z.nx + 15⟩) (Af _) (fun _ _ _ => rfl) (fun c hc => .inl (by rw [← bV]; exact hc)) aV
 have hsv := fun (F : Fr) (h : aC 74 F = .int .i64 (n : Int)) => e2 F (.t 74) (by show eX (aC 74 F) = _; rw [h]; exact aG _ _)
 refine mL (pre := aKX) (K := 14) (m := 16383) (n := 1) (x := .t 77) (v := .t 75) rfl rfl rfl rfl ?_
 unfold aKX
 simp only [↓sU,sD,rE,↓reduceIte,rA, p0, aS, bH, aR, aA, aO, aB, f2, sva, hvlen, wV, hsv]
 rw [aV.cells, aE]
 refine ⟨_, stc (cs := dL db { m with ia := ia', infos := m.infos.dropLast }) (p := 2) (S := ⟨Z.h, Z.nx + 15⟩) hM2.g (show 2 < 10 by omega), _, rfl, .inr ⟨by omega, by omega, hno, va', ia', kP2.put (by simp only; rw [T.get_set, if_pos rfl]; rfl) (Af _) fun c _ hne => by simp only; rw [T.get_set, if_neg hne], ?_⟩⟩
 exact ((kZ.trans (eO.same (Same.nx Z 15))).trans kM2).trans eO.put
inductive eR : List (Option Nat) → Nat → Prop
 | nil : eR [] 0
 | none {l : List (Option Nat)} {n : Nat} : eR l n → eR (l ++ [Option.none]) n
 | old {l : List (Option Nat)} {n i : Nat} : eR l n → i < n → eR (l ++ [some i]) n
 | new {l : List (Option Nat)} {n : Nat} : eR l n → eR (l ++ [some n]) (n + 1)
def sJ : List (Option Nat) → Nat → Nat → Nat
 | [], _, _ => 0
 | b :: l, s, i => if b = some i then s + 1 else sJ l (s + 1) i
theorem aGx : ∀ {l : List (Option Nat)} {s i : Nat}, sJ l s i ≤ s + l.length
 | [], s, i => Ci _
 | b :: l, s, i => by
  unfold sJ
  split
  ·simp
  ·have := aGx (l := l) (s := s + 1) (i := i)
   rw [Az]
   omega
theorem fB : ∀ {l : List (Option Nat)} {s i : Nat} {b : Option Nat}, sJ (l ++ [b]) s i = if sJ l s i ≠ 0 then sJ l s i else if b = some i then s + l.length + 1 else 0
 | [], s, i, b => by simp [sJ]
 | c :: l, s, i, b => by
  show sJ (c :: (l ++ [b])) s i = _
  unfold sJ
  by_cases h : c = some i
  ·rw [if_pos h, if_pos h, if_pos (by omega)]
  ·rw [if_neg h, if_neg h, fB (l := l) (s := s + 1), Az]
   split
   ·rfl
   ·split
    ·omega
    ·rfl
theorem aHU {l : List (Option Nat)} {n : Nat} (h : eR l n) : ∀ i, n ≤ i → sJ l 0 i = 0 := by
 induction h with
 | nil => intro i _; rfl
 | none _ ih => intro i hi; rw [fB, ih i hi]; simp
 | old _ hlt ih => intro i hi; rw [fB, ih i hi]; simp; omega
 | new _ ih => intro i hi; rw [fB, ih i (by omega)]; simp; omega
theorem aHr {l : List (Option Nat)} {n : Nat} (h : eR l n) : (∀ i, i < n → sJ l 0 i ≠ 0) ∧ ∀ i, i + 1 < n → sJ l 0 i < sJ l 0 (i + 1) := by
 induction h with
 | nil => exact ⟨fun i hi => absurd hi (Bv i), fun i hi => absurd hi (by omega)⟩
 | none _ ih => exact ⟨fun i hi => by rw [fB, if_pos (ih.1 i hi)]; exact ih.1 i hi, fun i hi => by rw [fB, fB, if_pos (ih.1 i (by omega)), if_pos (ih.1 (i + 1) hi)]; exact ih.2 i hi⟩
 | old _ _ ih => exact ⟨fun i hi => by rw [fB, if_pos (ih.1 i hi)]; exact ih.1 i hi, fun i hi => by rw [fB, fB, if_pos (ih.1 i (by omega)), if_pos (ih.1 (i + 1) hi)]; exact ih.2 i hi⟩
 | @new l n ho ih =>
  refine ⟨fun i hi => ?_, fun i hi => ?_⟩
  ·by_cases e : i < n
   ·rw [fB, if_pos (ih.1 i e)]; exact ih.1 i e
   ·obtain rfl : i = n := by omega
    rw [fB, aHU ho i (Af _), if_neg (fun h => h rfl), if_pos rfl]
    omega
  ·by_cases e : i + 1 < n
   ·rw [fB, fB, if_pos (ih.1 i (by omega)), if_pos (ih.1 (i + 1) e)]; exact ih.2 i e
   ·obtain rfl : n = i + 1 := by omega
    rw [fB, fB, if_pos (ih.1 i (by omega)), aHU ho (i + 1) (Af _), if_neg (fun h => h rfl), if_pos rfl]
    have := aGx (l := l) (s := 0) (i := i)
    omega
def tP (x : cM) : Option Nat := if x.kind = 2 then some x.info.toNat else Option.none
theorem aAL : ∀ {l : List cM} {s i : Nat}, (∀ x ∈ l, x.kind = 2 → 0 ≤ x.info) → sJ (l.map tP) s i = jW l s i
 | [], _, _, _ => rfl
 | x :: l, s, i, h => by
  have ih := aAL (l := l) (s := s + 1) (i := i) fun y hy => h y (Bg _ hy)
  show (if tP x = some i then s + 1 else sJ (l.map tP) (s + 1) i) = if x.kind = 2 ∧ x.info = (i : Int) then s + 1 else jW l (s + 1) i
  rw [ih]
  have h0 := h x (Bm ..)
  by_cases hk : x.kind = 2
  ·have h0 := h0 hk
   have e : (tP x = some i) ↔ (x.kind = 2 ∧ x.info = (i : Int)) := by
    unfold tP
    rw [if_pos hk, Ar]
    constructor
    ·intro e; exact ⟨hk, by omega⟩
    ·rintro ⟨_, e⟩; omega
   by_cases h1 : tP x = some i
   ·rw [if_pos h1, if_pos (e.1 h1)]
   ·rw [if_neg h1, if_neg (fun h => h1 (e.2 h))]
  ·have h1 : tP x ≠ some i := by unfold tP; rw [if_neg hk]; intro h; cases h
   rw [if_neg h1, if_neg (fun h => hk h.1)]
def oW (k at_ : Nat) (B : List cM) : Prop := 0 < B.length ∧ ∀ (N : Nat) (nx : Nat → List Int), at_ + B.length ≤ N → (∀ i x, B[i]? = some x → nx (at_ + i) = x.next) → ∀ f p d, B.length ≤ f → ∃ L, eS N nx f at_ p d = some L ∧ L.length = B.length ∧ ∀ t ∈ L, t.2.1 ≤ d + (k : Int)
def aBc (k at_ : Nat) (cs : List Int) (C : List cM) : Prop := ∀ (N : Nat) (nx : Nat → List Int), at_ + C.length ≤ N → (∀ i x, C[i]? = some x → nx (at_ + i) = x.next) → ∀ f p d, C.length ≤ f → ∃ L, fI (fun r => eS N nx f r p d) cs at_ = some L ∧ L.length = C.length ∧ ∀ t ∈ L, t.2.1 ≤ d + (k : Int)
theorem aBc.nil {k at_ : Nat} : aBc k at_ [] [] := fun N nx _ _ f p d _ => ⟨[], rfl, rfl, fun t ht => by cases ht⟩
theorem aA6 {rec : Nat → Option (List cE)} {c : Int} : ∀ {cs : List Int} {r : Nat} {L M : List cE}, fI rec cs r = some L → c = ((r + L.length : Nat) : Int) → rec (r + L.length) = some M → fI rec (cs ++ [c]) r = some (L ++ M)
 | [], r, L, M, h, hc, hM => by
  cases h
  have hc : c = (r : Int) := hc
  have hM : rec r = some M := hM
  show (if c = (r : Int) then (rec r).bind fun L1 => (fI rec [] (r + L1.length)).map (L1 ++ ·) else Option.none) = _
  rw [if_pos hc, hM]
  show some (M ++ []) = some ([] ++ M)
  rw [Bk, Bw]
 | b :: cs, r, L, M, h, hc, hM => by
  have h : (if b = (r : Int) then (rec r).bind fun L1 => (fI rec cs (r + L1.length)).map (L1 ++ ·) else Option.none) = some L := h
  show (if b = (r : Int) then (rec r).bind fun L1 => (fI rec (cs ++ [c]) (r + L1.length)).map (L1 ++ ·) else Option.none) = _
  by_cases hb : b = (r : Int)
  ·rw [if_pos hb] at h ⊢
   cases h1 : rec r with
   | none => rw [h1] at h; cases h
   | some L1 =>
    rw [h1] at h
    have h : (fI rec cs (r + L1.length)).map (L1 ++ ·) = some L := h
    cases h2 : fI rec cs (r + L1.length) with
    | none => rw [h2] at h; cases h
    | some L2 =>
     rw [h2] at h
     have h : some (L1 ++ L2) = some L := h
     cases h
     rw [Ah] at hc hM
     have := aA6 (rec := rec) (c := c) (M := M) h2 (by rw [hc]; congr 1; omega) (by rw [← hM]; congr 1; omega)
     show ((fI rec (cs ++ [c]) (r + L1.length)).map (L1 ++ ·)) = _
     rw [this]
     show some (L1 ++ (L2 ++ M)) = _
     rw [Bf]
  ·rw [if_neg hb] at h; cases h
theorem aBc.snoc {k at_ : Nat} {cs : List Int} {C B : List cM} (h : aBc k at_ cs C) (hB : oW k (at_ + C.length) B) : aBc k at_ (cs ++ [((at_ + C.length : Nat) : Int)]) (C ++ B) := by
 intro N nx hN hnx f p d hf
 rw [Ah] at hN hf
 obtain ⟨L, h1, h2, h3⟩ := h N nx (by omega) (fun i x hi => hnx i x (by rw [An (Ai.1 hi).1]; exact hi)) f p d (by omega)
 obtain ⟨M, g1, g2, g3⟩ := hB.2 N nx (by omega) (fun i x hi => by
  have := hnx (C.length + i) x (by rw [Ao (by omega), Ec]; exact hi)
  rw [← this]; congr 1; omega) f p d (by omega)
 refine ⟨L ++ M, aA6 h1 (by rw [h2]) (by rw [h2]; exact g1), by rw [Ah, Ah, h2, g2], fun t ht => ?_⟩
 rcases Bh.1 ht with h | h
 ·exact h3 t h
 ·exact g3 t h
theorem oW.node {k at_ : Nat} {x : cM} {C : List cM} (h : aBc k (at_ + 1) x.next C) : oW (k + 1) at_ (x :: C) := by
 refine ⟨by simp, fun N nx hN hnx f p d hf => ?_⟩
 rw [Az] at hN hf
 cases f with
 | zero => omega
 | succ f =>
  obtain ⟨L, h1, h2, h3⟩ := h N nx (by omega) (fun i y hi => by
   have := hnx (i + 1) y hi
   rw [← this]; congr 1; omega) f (at_ : Int) (d + 1) (by omega)
  have h0 : nx at_ = x.next := hnx 0 x rfl
  refine ⟨(p, d, ((at_ + L.length : Nat) : Int)) :: L, ?_, by rw [Az, Az, h2], fun t ht => ?_⟩
  ·show (if at_ < N then (fI (fun r => eS N nx f r at_ (d + 1)) (nx at_) (at_ + 1)).map fun L => (p, d, ((at_ + L.length : Nat) : Int)) :: L else Option.none) = _
   rw [if_pos (by omega), h0, h1]
   rfl
  ·rcases Br.1 ht with rfl | h
   ·show d ≤ _
    omega
   ·have := h3 t h
    omega
theorem oW.end_ {k at_ : Nat} {x : cM} (h : x.next = []) : oW k at_ [x] := by
 refine ⟨by simp, fun N nx hN hnx f p d hf => ?_⟩
 cases f with
 | zero => simp at hf
 | succ f =>
  have h0 : nx at_ = x.next := hnx 0 x rfl
  refine ⟨[(p, d, ((at_ + 0 : Nat) : Int))], ?_, rfl, fun t ht => ?_⟩
  ·show (if at_ < N then (fI (fun r => eS N nx f r at_ (d + 1)) (nx at_) (at_ + 1)).map fun L => (p, d, ((at_ + L.length : Nat) : Int)) :: L else Option.none) = _
   rw [if_pos (by simp at hN; omega), h0, h]
   rfl
  ·rw [Cf.1 ht]
   show d ≤ _
   omega
structure aMK (x : cM) : Prop where
 kind : x.kind = 1
 player : x.player = 0
 info : x.info = 0
 pay : x.pay = []
 n1 : 1 ≤ x.next.length
 n2 : x.next.length ≤ 3
 len : x.weights.length = x.next.length
 wts : ∀ w ∈ x.weights, 1 ≤ w ∧ w ≤ 3
structure aOm (ps : Int) (I : List iC) (x : cM) : Prop where
 kind : x.kind = 2
 wts : x.weights = []
 pay : x.pay = []
 n1 : 1 ≤ x.next.length
 n2 : x.next.length ≤ 3
 pl : 0 ≤ x.player ∧ x.player < ps
 inf : 0 ≤ x.info
 at_ : I[x.info.toNat]? = some ⟨x.player, ((x.next.length : Nat) : Int)⟩
def gT (ps : Int) (I : List iC) (x : cM) : Prop := aJU ps x ∨ aMK x ∨ aOm ps I x
theorem gT.app {ps : Int} {I J : List iC} {x : cM} (h : gT ps I x) : gT ps (I ++ J) x := by
 rcases h with h | h | h
 ·exact .inl h
 ·exact .inr (.inl h)
 ·exact .inr (.inr ⟨h.kind, h.wts, h.pay, h.n1, h.n2, h.pl, h.inf, by rw [An (Ai.1 h.at_).1]; exact h.at_⟩)
theorem aJM {ps : Int} {I : List iC} {x : cM} (h : gT ps I x) : iG ps I.length x = 0 := by
 unfold iG
 rcases h with h | h | h
 ·rw [if_neg (by rw [h.kind]; decide), if_neg (by rw [h.kind]; decide), if_pos h.kind, if_neg (by unfold qV; rw [h.player, h.info, h.next, h.wts, h.len]; simp), if_neg]
  rintro ⟨w, hw, ho⟩
  have := h.pay w hw
  omega
 ·rw [if_pos h.kind, if_neg (by unfold pO; rw [h.player, h.info, h.pay, h.len]; have := h.n1; have := h.n2; simp; omega), if_neg]
  rintro ⟨w, hw, ho⟩
  have := h.wts w hw
  omega
 ·have hlt := (Ai.1 h.at_).1
  have := h.pl
  have := h.inf
  rw [if_neg (by rw [h.kind]; decide), if_pos h.kind, if_neg (by unfold tN; rw [h.wts, h.pay]; have := h.n1; have := h.n2; simp; omega), if_neg (by omega)]
theorem aCz {ps : Int} {I : List iC} : ∀ {l : List cM}, (∀ x ∈ l, gT ps I x) → mB ps I.length l = 0
 | [], _ => rfl
 | x :: l, h => by
  have h1 := aJM (h x (Bm ..))
  show (if iG ps I.length x ≠ 0 then iG ps I.length x else mB ps I.length l) = 0
  rw [if_neg (fun h => h h1)]
  exact aCz fun y hy => h y (Bg _ hy)
theorem aGf {b : Int} : ∀ {L : List cE} {m : Int}, m ≤ b → (∀ t ∈ L, t.2.1 ≤ b) → aAe m L ≤ b
 | [], m, hm, _ => hm
 | t :: L, m, hm, h => by
  rw [aCC]
  refine aGf ?_ fun y hy => h y (Bg _ hy)
  have := h t (Bm ..)
  unfold mx
  split <;> omega
theorem aEp {g : bF} {k : Nat} (hp : 1 ≤ g.players ∧ g.players ≤ 4) (hn : 1 ≤ g.nodes.length ∧ g.nodes.length ≤ 2000) (hi : g.infos.length ≤ 200) (hN : ∀ x ∈ g.nodes, gT g.players g.infos x) (hT : oW k 0 g.nodes) (hk : k ≤ 40) (hO : eR (g.nodes.map tP) g.infos.length) : dF g = 0 := by
 obtain ⟨L, h1, h2, h3⟩ := hT.2 g.nodes.length (dN g) (by omega) (fun i x hi => by rw [Am]; exact uV hi) (g.nodes.length + 1) (-1) 0 (by omega)
 have hw : fK g = some L := h1
 unfold dF
 rw [if_neg (by unfold pJ; omega), if_neg (by rw [aCz hN]; exact fun h => h rfl), hw]
 show (if L.length ≠ g.nodes.length then 9 else if 40 < aAe 0 L then 5 else wU g) = 0
 have hm : aAe 0 L ≤ 40 := aGf (by decide) fun t ht => by have := h3 t ht; omega
 rw [if_neg (fun h => h h2), if_neg (by omega)]
 have hlen : (jE g).length = g.infos.length := by unfold jE; simp
 have hinf : ∀ x ∈ g.nodes, x.kind = 2 → 0 ≤ x.info := fun x hx hk => by
  rcases hN x hx with h | h | h
  ·rw [h.kind] at hk; cases hk
  ·rw [h.kind] at hk; cases hk
  ·exact h.inf
 have hget : ∀ j, j < g.infos.length → (jE g).getD j 0 = ((sJ (g.nodes.map tP) 0 j : Nat) : Int) := fun j hj => by rw [aEq hj, aAL hinf]
 obtain ⟨o1, o2⟩ := aHr hO
 unfold wU
 rw [if_neg, if_neg, if_pos]
 ·intro i h0 hi
  rw [hlen] at hi
  rw [hget i hi, hget (i - 1) (by omega)]
  have := o2 (i - 1) (by omega)
  rw [show i - 1 + 1 = i by omega] at this
  omega
 ·intro h0
  obtain ⟨j, hj, he⟩ := Eb.1 h0
  rw [hlen] at hj
  have := hget j hj
  rw [Ac, Ab (by rw [hlen]; exact hj)] at this
  have e : (jE g)[j] = ((sJ (g.nodes.map tP) 0 j : Nat) : Int) := this
  rw [he] at e
  have := o1 j hj
  omega
 ·rintro ⟨x, hx, hk, hne⟩
  rcases hN x hx with h | h | h
  ·rw [h.kind] at hk; cases hk
  ·rw [h.kind] at hk; cases hk
  ·apply hne
   have e : infoAt g x.info = ⟨x.player, ((x.next.length : Nat) : Int)⟩ := by
    unfold infoAt
    rw [Ac, h.at_]; rfl
   rw [e]
   exact ⟨rfl, rfl⟩
def aKf (Pp : Nat → Prop) (X : St) (cs : List AV) (l : List Int) : Prop := ∃ a, cs = [a] ∧ bO .i64 X a l ∧ ∀ c, aQ a = some c → Pp c
structure rG (Pp : Nat → Prop) (X : St) (v : AV) (rows : List (List Int)) : Prop where
 rows : aM 1 (aKf Pp) X v rows
 out : ∀ c, aQ v = some c → Pp c
theorem aKf.move {Pp Pp' : Nat → Prop} {X X' : St} {cs : List AV} {l : List Int} (h : aKf Pp X cs l) (hn : X.nx ≤ X'.nx) (hh : ∀ c, c < X.nx → Pp c → X'.h.get c = X.h.get c ∧ Pp' c) : aKf Pp' X' cs l := by
 obtain ⟨a, rfl, h1, h2⟩ := h
 exact ⟨a, rfl, fF h1 hn fun c hc => (hh c (dV h1 hc) (h2 c hc)).1, fun c hc => (hh c (dV h1 hc) (h2 c hc)).2⟩
theorem rG.move {Pp Pp' : Nat → Prop} {X X' : St} {v : AV} {rows : List (List Int)} (h : rG Pp X v rows) (hn : X.nx ≤ X'.nx) (hh : ∀ c, c < X.nx → Pp c → X'.h.get c = X.h.get c ∧ Pp' c) : rG Pp' X' v rows := by
 refine ⟨?_, fun c hc => (hh c (aAp h.rows hc) (h.out c hc)).2⟩
 rcases h.rows with h' | ⟨b, off, cap, o, cs, rfl, h2, h3, h4, h5⟩
 ·exact .inl h'
 ·refine .inr ⟨b, off, cap, o, cs, rfl, h2, Ae h3 hn, ?_, fun i a hi => ?_⟩
  ·unfold cP at h4 ⊢
   rw [(hh b h3 (h.out b rfl)).1]
   exact h4
  ·obtain ⟨e, e1, e2, e3⟩ := h5 i a hi
   exact ⟨e, e1, e2, e3.move hn hh⟩
theorem aNf {S : St} {v : AV} {l : List Int} (h : bO .i64 S v l) : jZ v = some l.length ∧ eE v S.h 1 l.length = some (bB l) := by
 rcases h with ⟨rfl, rfl | rfl⟩ | ⟨b, off, cap, o, cs, rfl, h2, h3, h4, h5⟩
 ·exact ⟨rfl, rfl⟩
 ·exact ⟨rfl, rfl⟩
 ·refine ⟨rfl, ?_⟩
  show bE (cP S.h b) (fun c => cut c off (l.length * 1)) = _
  rw [h4]
  show cut cs off (l.length * 1) = _
  have hlen : l.length ≤ (cs.drop off).length := by
   rw [Cq]
   rcases Be l.length with h0 | hp
   ·omega
   ·have := h5 (l.length - 1) l[l.length - 1] (Ab (by omega))
    have := (Ai.1 this).1
    omega
  unfold cut
  rw [fO, fZ, Ee, if_pos hlen]
  congr 1
  refine List.ext_getElem? fun i => ?_
  by_cases hi : i < l.length
  ·rw [Dw hi, Eq, h5 i l[i] (Ab hi)]
   unfold bB
   rw [Bc, Ab hi]
   rfl
  ·rw [Bl (by rw [Bs]; omega), Bl (by unfold bB; rw [Av]; omega)]
theorem aAG {b : Nat} {S : St} {v : AV} {l : List Int} (hb : S.h.get b = some (.cells [] false 0)) (h : bO .i64 S v l) (h2 : l.length ≤ 100000) :
  ∃ r S', gF 8 1 (.sl b 0 0 0 false) v S = some (r, S') ∧ Same S S' ∧ ((l = [] ∧ r = .sl b 0 0 0 false ∧ S' = S) ∨ (gN 1 S S' r l.length (bB l) ∧ l ≠ [])) := by
 obtain ⟨e1, e2⟩ := aNf h
 have hr : l.length ≤ room := by unfold room; omega
 have hr2 : l.length * 8 ≤ room := by unfold room; omega
 unfold gF
 rw [e1, aE, e2, aE]
 show ∃ r S', jU 8 1 b 0 0 0 false l.length (bB l) S = some (r, S') ∧ _
 unfold jU
 rcases Be l.length with h0 | hp
 ·have hl : l = [] := Bo.1 h0
  subst hl
  exact ⟨.sl b 0 0 0 false, S, rfl, Same.refl S, .inl ⟨rfl, rfl, rfl⟩⟩
 ·have e5 : Nat.ble (0 + l.length) 0 = false := by
   rw [Cb]; intro e; have := Ay e; omega
  rw [e5, aL, Ak (by omega), aF, Ak (by rw [Am]; exact hr2), aF, hb, aE]
  have e4 : cut ([] : List AV) 0 (0 * 1) = some [] := by
   unfold cut
   rw [fO, fZ, Cx, if_pos (Ci _)]
   rfl
  have hgr : tQ (.cells [] false 0) 1 b 0 0 0 false l.length (bB l) S = some (.sl S.nx 0 (0 + l.length) (0 + l.length) true, ⟨S.h.set S.nx (some (.cells (bB l) true 1)), Nat.succ S.nx⟩) := by
   simp only [tQ, e4, aE, aL, grown, fM, Bw]
  rw [hgr, Am]
  exact ⟨.sl S.nx 0 l.length l.length true, ⟨S.h.set S.nx (some (.cells (bB l) true 1)), S.nx + 1⟩, rfl, Same.alloc S _, .inr ⟨.inr ⟨S.nx, rfl, Af _, by simp, by simp only; rw [T.get_set, if_pos rfl], by simp [bB]⟩, fun e => by rw [e] at hp; exact absurd hp (Nat.lt_irrefl 0)⟩⟩
theorem aF6 {t b : Nat} {Y X : St} {r : AV} {l : List Int} {w : Int} (h : (l = [] ∧ r = .sl b 0 0 0 false ∧ X.h.get b = some (.cells [] false 0)) ∨ (gN 1 Y X r l.length (bB l) ∧ l ≠ [])) (hY : Y.nx ≤ X.nx) (ht : X.h.get t = some (.cells [.int .i64 w] false 0)) (htl : t < X.nx) (hl : l.length ≤ 100000) :
  ∃ r' X', gF 8 1 r (.sl t 0 1 1 false) X = some (r', X') ∧ bO .i64 X' r' (l ++ [w]) ∧ X.nx ≤ X'.nx ∧ (∀ c, c < X.nx → aQ r ≠ some c → X'.h.get c = X.h.get c) ∧ ∀ c, aQ r' = some c → X.nx ≤ c := by
 rcases h with ⟨rfl, rfl, hb⟩ | ⟨hg, _⟩
 ·have hs : bO .i64 X (.sl t 0 1 1 false) [w] := .inr ⟨t, 0, 1, false, [.int .i64 w], rfl, Af _, htl, by unfold cP; rw [ht]; rfl, fun i x hi => by
   cases i with
   | zero => cases hi; rfl
   | succ i => simp at hi⟩
  obtain ⟨r', X', e1, e2, h3 | ⟨h3, _⟩⟩ := aAG hb hs (by simp)
  ·exact absurd h3.1 (by simp)
  ·exact ⟨r', X', e1, h3.is, e2.1, fun c hc _ => e2.2 c hc, fun c hc => (h3.blk hc).1⟩
 ·have hg' : gN 1 ⟨X.h, Y.nx⟩ X r l.length (bB l) := by
   rcases hg with h | ⟨c, e1, e2, e3, e4, e5⟩
   ·exact .inl h
   ·exact .inr ⟨c, e1, e2, e3, e4, e5⟩
  obtain ⟨r', X', e1, e2, e3, e4, e5⟩ := gN.push (bytes := 8) (t := t) (w := w) hg' ⟨hY, fun _ _ => rfl⟩ ht (by unfold room; omega) (by unfold room; omega)
  exact ⟨r', X', e1, e2.is, by omega, e5, fun c hc => by rw [e3] at hc; cases hc; exact Af _⟩
noncomputable def aIf : List AO := [oq 185 (.faddr 3 (.t 11)),
om 186 1 (ld 185),
mt 187 0,
mt 188 1,
om 189 8 (bi .add (.t 188) (ci 1)),
mt 190 13,
oc 191 86 [(.t 187),(.t 189),(.t 190)] 60,
⟨(some 192),(.a (.bslice 3 1 1 [(.int .i64 (.ofNat 0))] [(0,(.t 191))])),none,124⟩]
noncomputable def aJi : List AO := [⟨(some 193),(.x (.app 3 1 8 (.t 186) (.t 192))),none,255⟩,
om 194 511 (.faddr 3 (.t 11)),
⟨none,(.x (.st 1 (.t 194) (.t 193))),none,1023⟩]
def aLA (P : Nat → Prop) (S0 X : St) (F : Fr) (mb db : Nat) (m : Mk) (LV : List (Int × Int × Int)) (xa : AV) (G : Int → Mk → Prop) (F' : Fr) (Z : St) (ps : List gL) : Prop := ∃ (c : Int) (m' : Mk), G c m' ∧ ps = [⟨7, X.nx + 7, .cells [.int .i64 c] false 0⟩] ∧ X.nx + 11 ≤ Z.nx ∧ kL (fun k => P k ∨ X.nx + 11 ≤ k) S0 Z mb db m' LV ∧ (∀ k, k < X.nx + 11 → PB mb db m k → PB mb db m' k) ∧ (∀ k, k < X.nx → PB mb db m k → Z.h.get k = X.h.get k) ∧ (∀ j, j < 16 → aC j F' = aC j F) ∧ aC 186 F' = xa ∧ aC 192 F' = .sl (X.nx + 7) 0 1 1 false
theorem aJT {ops : List AO} {P : Nat → Prop} {S0 Y0 X : St} {F : Fr} {inr : Bool} {mb db xb : Nat} {m : Mk} {LV : List (Int × Int × Int)} {k p f xa xw xp nv : AV} {lev : Int} {l : List Int} {G : Int → Mk → Prop} {Q : Out → bT → St → Prop} (he : ops = aIf ++ aJi) (hM : kL P S0 X mb db m LV) (hPl : ∀ c, P c → c < X.nx) (p0 : aC 0 F = .ptr mb 0) (p1 : aC 1 F = .int .i64 lev) (hlev : 0 ≤ lev ∧ lev ≤ 1000) (p11 : aC 11 F = .ptr xb 0) (p13 : aC 13 F = nv) (gx : X.h.get xb = some (.cells [k, p, f, xa, xw, xp] false 0)) (hx : PB mb db m xb ∧ ¬ P xb) (lx : xb < Y0.nx) (hY : Y0.nx ≤ X.nx) (hg : gN 1 Y0 X xa l.length (bB l)) (hb : ∀ c, aQ xa = some c → PB mb db m c ∧ ¬ P c) (hl : l.length ≤ 1000)
  (hcall : ∀ X1, Same X X1 → iM fns (.fn 86 [] []) [.ptr mb 0, .int .i64 (lev + 1), nv] X1 fun r Z => ∃ (c : Int) (m' : Mk), r = .int .i64 c ∧ G c m' ∧ kL (fun k => P k ∨ X1.nx ≤ k) S0 Z mb db m' LV ∧ eO mb db m X1 m' Z)
  (hQ : ∀ F' Z xa' c m', (∀ j, j < 16 → aC j F' = aC j F) → G c m' → kL (fun k => (P k ∨ X.nx ≤ k) ∧ aQ xa' ≠ some k) S0 Z mb db m' LV → X.nx ≤ Z.nx → (∀ k, k < X.nx → PB mb db m k → PB mb db m' k) → (∀ k, k < X.nx → PB mb db m k → k ≠ xb → aQ xa ≠ some k → Z.h.get k = X.h.get k) → Z.h.get xb = some (.cells [k, p, f, xa', xw, xp] false 0) → gN 1 Y0 Z xa' (l ++ [c]).length (bB (l ++ [c])) → (∀ k, aQ xa' = some k → X.nx ≤ k ∧ PB mb db m' k) → Q .normal ⟨F', inr⟩ Z) : kH fns (.drw ops) ⟨F, inr⟩ X Q := by
 have hlen : ops.length = 11 := by rw [he]; rfl
 have lxX : xb < X.nx := Ae lx hY
 have sp := hg.self
 have wl : IntKind.i64.wrap (lev + 1) = lev + 1 := wrap_i64 (by omega) (by omega)
 refine aAo (W := fun c => c ≠ xb) (K := 8) (R := aLA P S0 X F mb db m LV xa G) he rfl rfl (fun X1 x1 hh1 nn1 => ?_) ?_
 ·have gxl := cS (p := 3) gx rfl
  have hnn : ¬ (xb ≠ xb) := fun h => h rfl
  unfold aIf
  simp only [↓sU,sD,rE,↓reduceIte,rA, p0, p1, p11, p13, aA, aO, aB, gxl, sp, lxX, hnn, Ax, wl]
  refine jN rfl ?_
  simp only [↓sU,sD,rE,↓reduceIte,rA]
  refine aW (hcall X1 x1) ?_
  rintro _ X2 ⟨c, m', rfl, hG, hM2, b2⟩
  have n1 : X1.nx = X.nx + 11 := by rw [nn1, hlen]
  have hX1 : ∀ k, k < X.nx → PB mb db m k → X2.h.get k = X.h.get k := fun k hk hp => ((b2.2 k (by omega) hp).1).trans (x1.2 k hk)
  refine ⟨⟨b2.1, fun c hc hne => ?_⟩, ?_⟩
  ·have e : c = xb := Decidable.byContradiction hne
   rw [e]
   exact (b2.2 xb (by omega) hx.1).1
  have he1 := fun (F : Fr) (id : Nat) (h : aC 191 F = .int .i64 c) => mI (t := 3) (z := .int .i64 0) (x := .t 191) (F := F) (id := id) (k := .i64) (n := c) h
  simp only [↓sU,sD,rE,↓reduceIte,rA, he1]
  refine ⟨c, m', hG, by simp only [↓sU,sD,rE,↓reduceIte,rA], by rw [← n1]; exact b2.1, by rw [← n1]; exact hM2, fun k hk hp => (b2.2 k (by omega) hp).2, hX1, fun j hj => ?_, by refine ⟨?_,?_⟩<;>simp only [↓sU,sD,rE,↓reduceIte,rA]⟩
  have : j = 0 ∨ j = 1 ∨ j = 2 ∨ j = 3 ∨ j = 4 ∨ j = 5 ∨ j = 6 ∨ j = 7 ∨ j = 8 ∨ j = 9 ∨ j = 10 ∨ j = 11 ∨ j = 12 ∨ j = 13 ∨ j = 14 ∨ j = 15 := by omega
  rcases this with rfl | rfl | rfl | rfl | rfl | rfl | rfl | rfl | rfl | rfl | rfl | rfl | rfl | rfl | rfl | rfl <;> simp only [↓sU,sD,rE,↓reduceIte,rA]
 rintro F' S' ps hs ls ⟨c, m', hG, rfl, nZ, hMZ, hPB, hZX, hk, pA, pB⟩ hlast hld
 have p11' : aC 11 F' = .ptr xb 0 := (hk 11 (by omega)).trans p11
 have m1 : ∀ i, i < 8 → Nat.testBit 255 i = true := by decide
 obtain ⟨U, hU⟩ : ∃ U : St, U = ⟨S'.h.set (X.nx + 7) (some (.cells [.int .i64 c] false 0)), S'.nx⟩ := ⟨_, rfl⟩
 have nU : U.nx = S'.nx := by rw [hU]
 have kU : ∀ j, j ≠ X.nx + 7 → U.h.get j = S'.h.get j := fun j hj => by rw [hU]; simp only; rw [T.get_set, if_neg hj]
 have gU : U.h.get (X.nx + 7) = some (.cells [.int .i64 c] false 0) := by rw [hU]; simp only; rw [T.get_set, if_pos rfl]
 have lowv : ∀ {j}, aQ xa = some j → Y0.nx ≤ j ∧ j < X.nx := fun hc => ⟨(hg.blk hc).1, (hg.blk hc).2.1⟩
 have hgU : gN 1 ⟨U.h, Y0.nx⟩ U xa l.length (bB l) := hg.move (by omega) fun j hj => by
  rw [kU j (by have := (lowv hj).2; omega)]
  exact hZX j (lowv hj).2 (hb j hj).1
 obtain ⟨xa', V, eA, gA, bA, nA, rA⟩ := gN.push (bytes := 8) (t := X.nx + 7) (w := c) hgU ⟨by show Y0.nx ≤ U.nx; omega, fun _ _ => rfl⟩ gU (by unfold room; omega) (by unfold room; omega)
 have gxV : V.h.get xb = some (.cells [k, p, f, xa, xw, xp] false 0) := by
  rw [rA xb (by omega) (fun e => by have := (lowv e).1; omega), kU xb (by omega)]
  exact (hZX xb lxX hx.1).trans gx
 have hbA : ∀ {j}, aQ xa' = some j → j = U.nx := fun hc => by rw [bA] at hc; exact (Bq hc).symm
 unfold aJi
 refine kE (v := xa') (S1 := V) (hlast _ m1) (fun call => ?_) ?_
 ·rw [cR (show Nat.testBit 255 7 = true by decide), fU]
  simp only [iJ, pA, pB]
  rw [← hU]
  exact eA
 rw [cR (show Nat.testBit 255 7 = true by decide)]
 simp only [iU, dP, aA, aB, aO, aL, iJ, cA, bL, p11', rE, ↓reduceIte, rA]
 have gAc : xa'.cells = some [xa'] := gN.cells gA
 refine kE (v := .undef) (S1 := ⟨V.h.set xb (some (.cells [k, p, f, xa', xw, xp] false 0)), V.nx⟩) (show Nat.testBit 1023 8 = true by decide) (fun call => ?_) ?_
 ·rw [dW]
  simp only [iJ, bL, rE, ↓reduceIte, cA, gAc, aE]
  exact stc (cs := [k, p, f, xa, xw, xp]) (p := 3) (S := V) gxV (by simp)
 rw [jR]
 refine ⟨?_, ?_⟩
 ·simp only [Cz, Bf, Dj, Cp, Bw]
  exact hld _ _ _ m1
 ·simp only [cA, gH]
  have kV : ∀ j, j < S'.nx → j ≠ X.nx + 7 → j ≠ xb → aQ xa ≠ some j → (V.h.set xb (some (.cells [k, p, f, xa', xw, xp] false 0))).get j = S'.h.get j := fun j hj h1 h2 h3 => by
   rw [T.get_set, if_neg h2, rA j (by omega) h3, kU j h1]
  have hxm : PB mb db m' xb := hPB xb (by omega) hx.1
  have hMV : kL (fun k => P k ∨ X.nx + 11 ≤ k) S0 ⟨V.h.set xb (some (.cells [k, p, f, xa', xw, xp] false 0)), V.nx⟩ mb db m' LV := hMZ.local (by show S'.nx ≤ V.nx; omega) fun j hj hor => by
   refine kV j hj (fun e => ?_) (fun e => ?_) (fun e => ?_)
   ·rcases hor with h | h | h
    ·exact h (hPB j (by omega) (by rw [e]; exact hM.p.fresh (by omega)))
    ·have := hPl j h; omega
    ·omega
   ·rcases hor with h | h | h
    ·exact h (by rw [e]; exact hxm)
    ·exact hx.2 (by rw [← e]; exact h)
    ·omega
   ·have hlo := (lowv e).2
    rcases hor with h | h | h
    ·exact h (hPB j (by omega) (hb j e).1)
    ·exact (hb j e).2 h
    ·omega
  have hM3 : kL (fun k => (P k ∨ X.nx ≤ k) ∧ aQ xa' ≠ some k) S0 ⟨V.h.set xb (some (.cells [k, p, f, xa', xw, xp] false 0)), V.nx⟩ mb db m' LV := by
   have h1 : kL (fun k => (P k ∨ X.nx + 11 ≤ k) ∧ k < S'.nx) S0 ⟨V.h.set xb (some (.cells [k, p, f, xa', xw, xp] false 0)), V.nx⟩ mb db m' LV := (hMZ.mono fun j hj h => ⟨h, hj⟩).local (by show S'.nx ≤ V.nx; omega) fun j hj hor => by
    refine kV j hj (fun e => ?_) (fun e => ?_) (fun e => ?_)
    ·rcases hor with h | ⟨h | h, _⟩
     ·exact h (hPB j (by omega) (by rw [e]; exact hM.p.fresh (by omega)))
     ·have := hPl j h; omega
     ·omega
    ·rcases hor with h | ⟨h | h, _⟩
     ·exact h (by rw [e]; exact hxm)
     ·exact hx.2 (by rw [← e]; exact h)
     ·omega
    ·have hlo := (lowv e).2
     rcases hor with h | ⟨h | h, _⟩
     ·exact h (hPB j (by omega) (hb j e).1)
     ·exact (hb j e).2 h
     ·omega
   refine h1.mono fun j _ h => ⟨h.1.elim .inl fun h => .inr (by omega), fun e => ?_⟩
   have := hbA e
   have := h.2
   omega
  refine hQ _ _ xa' c m' (fun j hj => ?_) hG hM3 (by show X.nx ≤ V.nx; omega) (fun j hj hp => hPB j (by omega) hp) (fun j hj hp h1 h2 => ?_) (by simp only; rw [T.get_set, if_pos rfl]) ?_ (fun j hj => ?_)
  ·rw [bL, if_neg (by omega), bL, if_neg (by omega)]
   exact hk j hj
  ·simp only
   rw [kV j (by omega) (by omega) h1 h2]
   exact hZX j hj hp
  ·refine gN.move (S := V) (by exact gA) (Af _) fun j hj => ?_
   have := hbA hj
   simp only
   rw [T.get_set, if_neg (by omega)]
  ·have := hbA hj
   exact ⟨by omega, hMZ.p.fresh (by omega)⟩
theorem aIP {a q : Nat} (ha : a ≤ 1000) (hq : q ≤ 64) : ∃ z y : Nat, lE .shr (.p .int) (.int .i64 (a : Int)) (.int .i64 (q : Int)) = some (.int .i64 (z : Int)) ∧ lE .and (.p .int) (.int .i64 (z : Int)) (.int .i64 1) = some (.int .i64 (y : Int)) := by
 refine ⟨a / 2 ^ q, Nat.land (a / 2 ^ q) 1, ?_, ?_⟩
 ·show dS .shr .i64 (Int.ofNat a) .i64 (Int.ofNat q) = _
  unfold dS
  rw [show fG .shr = true from rfl, aF]
  show aDB .shr .i64 (Int.ofNat a) q = _
  unfold aDB
  rw [show Nat.ble q IntKind.i64.bits = true from Ak hq, aF]
  show some (AV.int .i64 (Int.fdiv (a : Int) ((2 ^ q : Nat) : Int))) = _
  rw [Int.fdiv_eq_ediv_of_nonneg _ (Int.natCast_nonneg _)]
  rfl
 ·have hz : a / 2 ^ q ≤ 1000 := Al (Nat.div_le_self _ _) ha
  generalize a / 2 ^ q = z at *
  show dS .and .i64 (Int.ofNat z) .i64 (Int.ofNat 1) = _
  unfold dS
  rw [show fG .and = false from rfl, aL, gK, aF]
  show bQ (tK .i64 z) (bQ (tK .i64 1) (some (AV.int .i64 (.ofNat (Nat.land z 1)))) none) none = _
  rw [show tK .i64 z = true from Ak (by show z ≤ 9223372036854775807; omega), aF, show tK .i64 1 = true from rfl, aF]
  rfl
noncomputable def aK9 : AC := (.block 2 (.loop (.seq (.seq (.reg [mt 150 14,
mt 151 2,
oq 152 (.lenSl (.t 151)),
oq 153 (bi .lss (.t 150) (.t 152))])
(.cond (.t 153) .skip (.exit 2)))
(.seq (.block 3 (.seq (.reg [⟨(some 156),(.a (.bslice 3 1 0 [(.int .i64 (.ofNat 0))] [])),none,0⟩,
mt 157 2,
mt 158 14,
oq 159 (.iaddr (.slice 1) (.t 157) (.t 158)),
oq 160 (ld 159),
⟨(some 161),(.x (.app 3 1 8 (.t 156) (.t 160))),none,0⟩,
mt 15 161])
(.seq (.seq (.reg [mt 162 14,
oq 163 (.faddr 0 (.t 8)),
oq 164 (ld 163),
oq 165 (bi .eql (.t 162) (.t 164)),
mt 166 165,
og 167 166 false 0 (.faddr 2 (.t 8)),
og 168 166 false 0 (ld 167),
og 169 166 false 0 (.mv (.t 14)),
og 170 166 false 0 (bi .shr (.t 168) (.t 169)),
og 171 166 false 0 (bi .and (.t 170) (ci 1)),
og 172 166 false 0 (bi .eql (.t 171) (ci 1)),
oq 173 (.pick (.t 166) (.c (.bool true)) (.t 172))])
(.cond (.t 173) (.reg [mt 174 15,
mt 175 12,
⟨(some 176),(.a (.bslice 3 1 1 [(.int .i64 (.ofNat 0))] [(0,(.t 175))])),none,0⟩,
⟨(some 177),(.x (.app 3 1 8 (.t 174) (.t 176))),none,0⟩,
mt 15 177]) (.reg [mt 178 15,
⟨(some 179),(.a (.bslice 3 1 1 [(.int .i64 (.ofNat 0))] [(0,(.c (.int .i64 (.negSucc 0))))])),none,0⟩,
⟨(some 180),(.x (.app 3 1 8 (.t 178) (.t 179))),none,0⟩,
mt 15 180])))
(.reg [mt 181 13,
mt 182 15,
⟨(some 183),(.a (.bslice 22 1 1 [.nilsl] [(0,(.t 182))])),none,0⟩,
⟨(some 184),(.x (.app 22 1 24 (.t 181) (.t 183))),none,0⟩,
mt 13 184]))))
(.reg [mt 154 14,
oq 155 (bi .add (.t 154) (ci 1)),
mt 14 155])))))
def RoI (Y : St) (F0 : Fr) (n lev : Nat) (k : Nat) (A : bT) (X : St) : Prop := A.inr = false ∧ Same Y X ∧ (∀ j, j < 13 → aC j A.F = aC j F0) ∧ ∃ (q : Nat) (nv : AV) (cs : List AV) (A' : List (List Int)), q + k = n ∧ A'.length = q ∧ (∀ l ∈ A', l.length ≤ lev + 1) ∧ gN 1 Y X nv q cs ∧ zR Y X nv cs A' ∧ aC 13 A.F = nv ∧ aC 14 A.F = .int .i64 (q : Int)
theorem aF0 {Pp : Nat → Prop} {Y : St} {F : Fr} {v : AV} {rows : List (List Int)} {tb lev : Nat} {pl many sn i : Int} {Q : Out → bT → St → Prop} (hv : rG Pp Y v rows) (hrl : ∀ l ∈ rows, l.length ≤ lev) (hlev : lev ≤ 900) (hn : rows.length ≤ 64) (p2 : aC 2 F = v) (p8 : aC 8 F = .ptr tb 0) (gt : Y.h.get tb = some (.cells [.int .i64 pl, .int .i64 many, .int .i64 sn] false 0)) (ltb : tb < Y.nx) (hsn : 0 ≤ sn ∧ sn ≤ 1000) (p12 : aC 12 F = .int .i64 i) (p13 : aC 13 F = .nilsl) (p14 : aC 14 F = .int .i64 0)
  (hQ : ∀ F' Z nv A', (∀ j, j < 13 → aC j F' = aC j F) → aC 13 F' = nv → Same Y Z → A'.length = rows.length → (∀ l ∈ A', l.length ≤ lev + 1) → rG (fun c => Y.nx ≤ c ∧ c < Z.nx) Z nv A' → Q .normal ⟨F', false⟩ Z) : kH fns aK9 ⟨F, false⟩ Y Q := by
 unfold aK9
 refine bN (Q := fun o A' Z => o = .normal ∧ RoI Y F rows.length lev 0 A' Z) (aU (cI (RoI Y F rows.length lev) ?_ rows.length _ _ ⟨rfl, Same.refl _, fun _ _ => rfl, 0, .nilsl, [], [], by omega, rfl, fun l hl => (by cases hl), .inl ⟨rfl, rfl, rfl⟩, ⟨rfl, fun j hj => absurd hj (Bv j)⟩, p13, p14⟩)) ?_
 rotate_left
 ·rintro o ⟨F', inr⟩ Z ⟨rfl, q0, hZ, hk, q, nv, cs, A', hq, hl, hll, hg, hR, p13', _⟩
  simp only at q0 hk p13'
  subst q0
  obtain rfl : q = rows.length := by omega
  refine hQ F' Z nv A' hk p13' hZ hl hll ⟨?_, fun c hc => ⟨(hg.blk hc).1, (hg.blk hc).2.1⟩⟩
  rcases hg with ⟨rfl, h0, _⟩ | ⟨b, rfl, _, h2, h3, _⟩
  ·exact .inl ⟨Bo.1 (by omega), .inl rfl⟩
  ·refine .inr ⟨b, 0, rows.length, true, cs, by rw [hl], by omega, h2, by unfold cP; rw [h3]; rfl, fun j l hj => ?_⟩
   have hlt := (Ai.1 hj).1
   have e : A'.getD j [] = l := by rw [Ac, hj]; rfl
   obtain ⟨r, h4, h5, h6⟩ := hR.2 j hlt
   rw [e] at h5
   refine ⟨[r], rfl, fun x y hx => ?_, r, rfl, h5, fun c hc => ⟨(h6 c hc).1, dV h5 hc⟩⟩
   cases x with
   | zero =>
    cases hx
    rw [Am, Ee]
    exact h4
   | succ x => simp at hx
 rintro k ⟨G, inr⟩ X ⟨q0, hX, hk, q, nv, cs, A', hqk, hlA, hll, hg, hR, p13', p14'⟩
 simp only at q0 hk p13' p14'
 subst q0
 have g2 : aC 2 G = v := (hk 2 (by omega)).trans p2
 have g8 : aC 8 G = .ptr tb 0 := (hk 8 (by omega)).trans p8
 have g12 : aC 12 G = .int .i64 i := (hk 12 (by omega)).trans p12
 have hvX : rG Pp X v rows := hv.move hX.1 fun c hc hp => ⟨hX.2 c hc, hp⟩
 have gtX := (hX.2 _ ltb).trans gt
 refine jH ?_
 simp only [↓sU,sD,rE,↓reduceIte,rA, g2, p14', hvX.rows.len, Aj]
 by_cases hlt : q < rows.length
 rotate_left
 ·refine aT (by simp only [↓sU,sD,rE,↓reduceIte,rA, Aa (show ¬ (q : Int) < ((rows.length : Nat) : Int) by omega)]) (cC ?_)
  simp only [↓sU,sD,rE,↓reduceIte,rA]
  have hk0 : k = 0 := by omega
  subst hk0
  refine ⟨rfl, hX, fun j hj => ?_, q, nv, cs, A', hqk, hlA, hll, hg, hR, by refine ⟨?_,?_⟩<;>simp only [↓sU,sD,rE,↓reduceIte,rA,p13',p14']⟩
  rw [← hk j hj]
  have : j = 0 ∨ j = 1 ∨ j = 2 ∨ j = 3 ∨ j = 4 ∨ j = 5 ∨ j = 6 ∨ j = 7 ∨ j = 8 ∨ j = 9 ∨ j = 10 ∨ j = 11 ∨ j = 12 := by omega
  rcases this with rfl | rfl | rfl | rfl | rfl | rfl | rfl | rfl | rfl | rfl | rfl | rfl | rfl <;> simp only [↓sU,sD,rE,↓reduceIte,rA]
 refine aY (by simp only [↓sU,sD,rE,↓reduceIte,rA, Ad (show (q : Int) < ((rows.length : Nat) : Int) by omega)]) (aN ?_)
 try simp only [↓sU,sD,rE,↓reduceIte,rA]
 have w1 : IntKind.i64.wrap ((q : Int) + 1) = ((q + 1 : Nat) : Int) := by rw [wrap_i64 (by omega) (by omega)]; omega
 obtain ⟨_, br, qr, hia, lbr, _, ⟨a, rfl, hrow, _⟩, _, hlf⟩ := aM.at hvX.rows (by decide) (aAU hlt)
 have hld := hlf 0 a rfl
 rw [Bj] at hld
 have hrl' : (rows.getD q []).length ≤ lev := hrl _ (by rw [Ac, Ab hlt]; exact Bt hlt)
 generalize rows.getD q [] = l at *
 refine aD (aU (aD (aP ?_)))
 simp only [↓aH,aJ,rE,↓reduceIte, rA]
 refine iO qC ?_
 intro X1 x1 n1 b1
 have hld1 := hld
 rw [← qY x1 lbr] at hld1
 simp only [↓aH,aJ,rE,↓reduceIte, rA, g2, p14', aG, hia, hld1]
 obtain ⟨r, X2, eA, x2, hr⟩ := aAG b1 (hrow.same x1) (by omega)
 refine fX (fun call => by simp only [↓aH,aJ,rE,↓reduceIte, rA, fU]; exact eA) ?_
 simp only [↓aH,aJ,rE,↓reduceIte, rA]
 have sX2 := x1.trans x2
 have sY2 := hX.trans sX2
 have gt2 := (sY2.2 _ ltb).trans gt
 have t0 := cS (p := 0) gt2 rfl
 have t2 := cS (p := 2) gt2 rfl
 have lX2 : X.nx < X2.nx := by have := x2.1; omega
 have hcp : (l = [] ∧ r = .sl X.nx 0 0 0 false ∧ X2.h.get X.nx = some (.cells [] false 0)) ∨ (gN 1 X1 X2 r l.length (bB l) ∧ l ≠ []) := by
  rcases hr with ⟨e1, e2, e3⟩ | h
  ·exact .inl ⟨e1, e2, by rw [e3]; exact b1⟩
  ·exact .inr h
 have hrb : ∀ c, aQ r = some c → X.nx ≤ c := fun c hc => by
  rcases hcp with ⟨_, rfl, _⟩ | ⟨h, _⟩
  ·cases hc; exact Af _
  ·have := (h.blk hc).1; omega
 obtain ⟨s0, rfl⟩ : ∃ s0 : Nat, sn = (s0 : Int) := ⟨sn.toNat, by omega⟩
 obtain ⟨z, y, hz, hy⟩ := aIP (a := s0) (q := q) (by omega) (by omega)
 refine aD (bN (Q := fun o A2 Z => o = .normal ∧ A2.inr = false ∧ (∀ j, j < 13 → aC j A2.F = aC j G) ∧ aC 13 A2.F = nv ∧ aC 14 A2.F = .int .i64 (q : Int) ∧ X2.nx ≤ Z.nx ∧ (∀ c, c < X.nx → Z.h.get c = X.h.get c) ∧ ∃ w, bO .i64 Z (aC 15 A2.F) (l ++ [w]) ∧ ∀ c, aQ (aC 15 A2.F) = some c → X.nx ≤ c) (aD (bN (Q := fun o A1 Z => o = .normal ∧ A1.inr = false ∧ Z = X2 ∧ (∀ j, j < 13 → aC j A1.F = aC j G) ∧ aC 13 A1.F = nv ∧ aC 14 A1.F = .int .i64 (q : Int) ∧ aC 15 A1.F = r ∧ ∃ t, aC 173 A1.F = .bool t) (aP ?_) ?_)) ?_)
 ·by_cases hqp : (q : Int) = pl
  ·simp only [↓sU,sD,rE,↓reduceIte,rA, p13', p14', g8, aA, aB, t0, Ad hqp]
   exact ⟨fun j hj => by
    have : j = 0 ∨ j = 1 ∨ j = 2 ∨ j = 3 ∨ j = 4 ∨ j = 5 ∨ j = 6 ∨ j = 7 ∨ j = 8 ∨ j = 9 ∨ j = 10 ∨ j = 11 ∨ j = 12 := by omega
    rcases this with rfl | rfl | rfl | rfl | rfl | rfl | rfl | rfl | rfl | rfl | rfl | rfl | rfl <;> simp only [↓sU,sD,rE,↓reduceIte,rA], true, rfl⟩
  ·simp only [↓sU,sD,rE,↓reduceIte,rA, p13', p14', g8, aA, aB, t0, t2, Aa hqp, hz, hy]
   exact ⟨fun j hj => by
    have : j = 0 ∨ j = 1 ∨ j = 2 ∨ j = 3 ∨ j = 4 ∨ j = 5 ∨ j = 6 ∨ j = 7 ∨ j = 8 ∨ j = 9 ∨ j = 10 ∨ j = 11 ∨ j = 12 := by omega
    rcases this with rfl | rfl | rfl | rfl | rfl | rfl | rfl | rfl | rfl | rfl | rfl | rfl | rfl <;> simp only [↓sU,sD,rE,↓reduceIte,rA], _, rfl⟩
 ·rintro o ⟨F1, inr⟩ Z ⟨rfl, q0, hZ, k1, e13, e14, e15, t, ht⟩
  simp only at q0 k1 e13 e14 e15 ht
  subst q0
  rw [hZ]
  clear hZ Z
  try simp only [↓sU,sD,rE,↓reduceIte,rA]
  have f12 : aC 12 F1 = .int .i64 i := (k1 12 (by omega)).trans g12
  have again : ∀ {F' : Fr} {X3 X4 : St} {r' : AV} {w : Int}, Same X2 X3 → X3.nx ≤ X4.nx → (∀ c, c < X3.nx → aQ r ≠ some c → X4.h.get c = X3.h.get c) → bO .i64 X4 r' (l ++ [w]) → (∀ c, aQ r' = some c → X3.nx ≤ c) → X2.nx ≤ X4.nx ∧ (∀ c, c < X.nx → X4.h.get c = X.h.get c) ∧ ∃ w, bO .i64 X4 r' (l ++ [w]) ∧ ∀ c, aQ r' = some c → X.nx ≤ c := fun {F' X3 X4 r' w} s3 n4 k4 i4 b4 =>
   ⟨Al s3.1 n4, fun c hc => by
    rw [k4 c (by have := s3.1; omega) (fun e => by have := hrb c e; omega), s3.2 c (by omega)]
    exact sX2.2 c hc, w, i4, fun c hc => by have := b4 c hc; have := s3.1; omega⟩
  have hcp3 : ∀ {X3 : St}, Same X2 X3 → ((l = [] ∧ r = .sl X.nx 0 0 0 false ∧ X3.h.get X.nx = some (.cells [] false 0)) ∨ (gN 1 X1 X3 r l.length (bB l) ∧ l ≠ [])) := fun s3 => hcp.elim (fun h => .inl ⟨h.1, h.2.1, (s3.2 _ lX2).trans h.2.2⟩) fun h => .inr ⟨h.1.step s3, h.2⟩
  have n12 := x2.1
  cases t with
  | true =>
   refine aY (by simp only [↓sU,sD,rE,↓reduceIte,rA, ht]) (aP ?_)
   simp only [↓aH,aJ,rE,↓reduceIte, rA, e15, f12]
   refine iO (mI (n := i) (k := .i64) (by simp only [↓aH,aJ,rE,↓reduceIte, rA])) ?_
   intro X3 x3 n3 b3
   obtain ⟨r', X4, eB, i4, n4, k4, b4⟩ := aF6 (t := X2.nx) (w := i) (hcp3 x3) (by omega) b3 (by omega) (by omega)
   refine fX (fun call => by simp only [↓aH,aJ,rE,↓reduceIte, rA, fU]; exact eB) ?_
   simp only [↓aH,aJ,rE,↓reduceIte, rA, e13, e14]
   exact ⟨fun j hj => by rw [← k1 j hj]; exact (by
    have : j = 0 ∨ j = 1 ∨ j = 2 ∨ j = 3 ∨ j = 4 ∨ j = 5 ∨ j = 6 ∨ j = 7 ∨ j = 8 ∨ j = 9 ∨ j = 10 ∨ j = 11 ∨ j = 12 := by omega
    rcases this with rfl | rfl | rfl | rfl | rfl | rfl | rfl | rfl | rfl | rfl | rfl | rfl | rfl <;> simp only [↓sU,sD,rE,↓reduceIte,rA]), again (F' := F1) x3 n4 k4 i4 b4⟩
  | false =>
   have ev28 : ∀ (F : Fr) (id : Nat), rO (.bslice 3 1 1 [.int .i64 0] [(0, .c (.int .i64 (.negSucc 0)))]) F id = some (.sl id 0 1 1 false, .cells [.int .i64 (-1)] false 0) := fun F id => mI rfl
   refine aT (by simp only [↓sU,sD,rE,↓reduceIte,rA, ht]) (aP ?_)
   simp only [↓aH,aJ,rE,↓reduceIte, rA, e15]
   refine iO (ev28 _ _) ?_
   intro X3 x3 n3 b3
   obtain ⟨r', X4, eB, i4, n4, k4, b4⟩ := aF6 (t := X2.nx) (w := -1) (hcp3 x3) (by omega) b3 (by omega) (by omega)
   refine fX (fun call => by simp only [↓aH,aJ,rE,↓reduceIte, rA, fU]; exact eB) ?_
   simp only [↓aH,aJ,rE,↓reduceIte, rA, e13, e14]
   exact ⟨fun j hj => by rw [← k1 j hj]; exact (by
    have : j = 0 ∨ j = 1 ∨ j = 2 ∨ j = 3 ∨ j = 4 ∨ j = 5 ∨ j = 6 ∨ j = 7 ∨ j = 8 ∨ j = 9 ∨ j = 10 ∨ j = 11 ∨ j = 12 := by omega
    rcases this with rfl | rfl | rfl | rfl | rfl | rfl | rfl | rfl | rfl | rfl | rfl | rfl | rfl <;> simp only [↓sU,sD,rE,↓reduceIte,rA]), again (F' := F1) x3 n4 k4 i4 b4⟩
 rintro o ⟨F2, inr⟩ Z ⟨rfl, q0, k2, e13, e14, nZ, kZ, w, iZ, bZ⟩
 simp only at q0 k2 e13 e14 iZ bZ
 subst q0
 generalize h15 : aC 15 F2 = r' at iZ bZ
 try simp only [↓sU,sD,rE,↓reduceIte,rA]
 have nXZ : X.nx ≤ Z.nx := by omega
 have sXZ : Same X Z := ⟨nXZ, kZ⟩
 refine aP ?_
 simp only [↓aH,aJ,rE,↓reduceIte, rA, e13, h15]
 refine iO (aGb (S := Z) iZ (by simp only [↓aH,aJ,rE,↓reduceIte, rA])) ?_
 intro X5 x5 n5 b5
 have hg5 : gN 1 ⟨X5.h, Y.nx⟩ X5 nv q cs := hg.step (sXZ.trans x5)
 obtain ⟨nv', X6, eC, gC, bC, n6, k6⟩ := gN.push1 (bytes := 24) (x := r') hg5 ⟨by have := hX.1; show Y.nx ≤ X5.nx; omega, fun _ _ => rfl⟩ b5 (by unfold room; omega) (by unfold room; omega)
 refine fX (fun call => by simp only [↓aH,aJ,rE,↓reduceIte, rA, fU]; exact eC) ?_
 simp only [↓aH,aJ,rE,↓reduceIte, rA]
 have nvlow : ∀ {c}, aQ nv = some c → Y.nx ≤ c ∧ c < X.nx := fun hc => ⟨(hg.blk hc).1, (hg.blk hc).2.1⟩
 have i5 : bO .i64 X5 r' (l ++ [w]) := iZ.same x5
 have i6 : bO .i64 X6 r' (l ++ [w]) := fF i5 (by omega) fun c hc => k6 c (dV i5 hc) fun e => by have := bZ c hc; have := (nvlow e).2; omega
 have hR6 := hR.push (Z := X6) (pv' := nv') (r := r') (l := l ++ [w]) (by have := hX.1; omega) (by omega) (fun c h1 h2 h3 => by rw [k6 c (by omega) h3, x5.2 c (by omega)]; exact kZ c h1) i6 (fun c hc => ⟨bZ c hc, fun e => by rw [bC] at e; cases e; have := dV i5 hc; omega⟩) (fun c hc => by rw [bC] at hc; cases hc; omega)
 refine aP ?_
 simp only [↓sU,sD,rE,↓reduceIte,rA, e14, w1]
 refine ⟨k - 1, by omega, rfl, ⟨by have := hX.1; omega, fun c hc => ?_⟩, fun j hj => ?_, q + 1, nv', cs ++ [r'], A' ++ [l ++ [w]], by omega, by rw [Ah, Aq, hlA], fun m hm => ?_, ?_, hR6, by refine ⟨?_,?_⟩<;>simp only [↓sU,sD,rE,↓reduceIte,rA]⟩
 ·rw [k6 c (by have := hX.1; omega) (fun e => by have := (nvlow e).1; omega), x5.2 c (by have := hX.1; omega), kZ c (by have := hX.1; omega)]
  exact hX.2 c hc
 ·rw [← hk j hj, ← k2 j hj]
  have : j = 0 ∨ j = 1 ∨ j = 2 ∨ j = 3 ∨ j = 4 ∨ j = 5 ∨ j = 6 ∨ j = 7 ∨ j = 8 ∨ j = 9 ∨ j = 10 ∨ j = 11 ∨ j = 12 := by omega
  rcases this with rfl | rfl | rfl | rfl | rfl | rfl | rfl | rfl | rfl | rfl | rfl | rfl | rfl <;> simp only [↓sU,sD,rE,↓reduceIte,rA]
 ·rcases Bh.1 hm with h | h
  ·exact hll m h
  ·rw [Cf.1 h, Ah, Aq]; omega
 ·rcases gC with h | ⟨b, e1, e2, e3, e4, e5⟩
  ·exact .inl h
  ·exact .inr ⟨b, e1, e2, e3, e4, e5⟩
structure aAr (m : Mk) : Prop where
 len : m.views.length = m.infos.length
 at_ : ∀ (j : Nat) (v : Int × Int × Int), m.views[j]? = some v → v.2.2 = (j : Int) ∧ 0 ≤ v.1 ∧ v.1 < m.ps ∧ ∃ a, m.infos[j]? = some ⟨v.1, a⟩ ∧ 1 ≤ a ∧ a ≤ 3
structure aB3 (lev : Nat) (m : Mk) : Prop where
 vok : aAr m
 lv : ∀ (j : Nat) (v : Int × Int × Int), m.views[j]? = some v → v.2.1 < (lev : Int) ∨ yG m v.2.2
 nd : ∀ x ∈ m.nodes, x.kind = 2 → x.info < ((m.infos.length : Nat) : Int)
 fit : ((m.nodes.length : Nat) : Int) + m.pend ≤ m.most
 pnd : 0 ≤ m.pend
 most : m.most ≤ 1000
 il : m.infos.length ≤ m.nodes.length
 ps : 1 ≤ m.ps ∧ m.ps ≤ 4
structure tO (m m' : Mk) (B : List cM) (d : Int) : Prop where
 nodes : m'.nodes = m.nodes ++ B
 ok : ∀ x ∈ B, gT m.ps m'.infos x
 ord : ∀ lab, eR lab m.infos.length → eR (lab ++ B.map tP) m'.infos.length
 inf : ∃ I, m'.infos = m.infos ++ I
 vws : ∃ V, m'.views = m.views ++ V
 vok : aAr m'
 used : ∀ j, m.infos.length ≤ j → j < m'.infos.length → ∃ x ∈ B, x.kind = 2 ∧ x.info = (j : Int)
 most : m'.most = m.most
 ps : m'.ps = m.ps
 pend : m'.pend = m.pend - d
 fit : ((m'.nodes.length : Nat) : Int) + m'.pend ≤ m'.most
 il : m'.infos.length ≤ m'.nodes.length
theorem tO.refl {lev : Nat} {m : Mk} (h : aB3 lev m) : tO m m [] 0 where
 nodes := (Bk _).symm
 ok := fun x hx => by cases hx
 ord := fun lab h => by simpa using h
 inf := ⟨[], (Bk _).symm⟩
 vws := ⟨[], (Bk _).symm⟩
 vok := h.vok
 used := fun j h1 h2 => by omega
 most := rfl
 ps := rfl
 pend := (Int.sub_zero _).symm
 fit := h.fit
 il := h.il
theorem tO.trans {m m' m'' : Mk} {B B' : List cM} {d d' : Int} (h : tO m m' B d) (h' : tO m' m'' B' d') : tO m m'' (B ++ B') (d + d') where
 nodes := by rw [h'.nodes, h.nodes, Bf]
 ok := fun x hx => by
  rcases Bh.1 hx with h1 | h1
  ·obtain ⟨I, e⟩ := h'.inf
   rw [e]
   exact (h.ok x h1).app
  ·rw [← h.ps]; exact h'.ok x h1
 ord := fun lab hl => by
  rw [Co, ← Bf]
  exact h'.ord _ (h.ord lab hl)
 inf := by
  obtain ⟨I, e⟩ := h.inf
  obtain ⟨I', e'⟩ := h'.inf
  exact ⟨I ++ I', by rw [e', e, Bf]⟩
 vws := by
  obtain ⟨I, e⟩ := h.vws
  obtain ⟨I', e'⟩ := h'.vws
  exact ⟨I ++ I', by rw [e', e, Bf]⟩
 vok := h'.vok
 used := fun j h1 h2 => by
  by_cases hj : j < m'.infos.length
  ·obtain ⟨x, hx, hk⟩ := h.used j h1 hj
   exact ⟨x, Da _ hx, hk⟩
  ·obtain ⟨x, hx, hk⟩ := h'.used j (by omega) h2
   exact ⟨x, Cm _ hx, hk⟩
 most := h'.most.trans h.most
 ps := h'.ps.trans h.ps
 pend := by rw [h'.pend, h.pend]; omega
 fit := h'.fit
 il := h'.il
theorem yG.mono {m m' : Mk} {B : List cM} {i : Int} (h : yG m i) (hn : m'.nodes = m.nodes ++ B) : yG m' i := by
 obtain ⟨x, hx, hk⟩ := h
 exact ⟨x, by rw [hn]; exact Da _ hx, hk⟩
theorem tO.pre {lev : Nat} {m m' : Mk} {B : List cM} {d : Int} (h : tO m m' B d) (hp : aB3 lev m) (hd : 0 ≤ m'.pend) : aB3 lev m' where
 vok := h.vok
 lv := fun j v hv => by
  obtain ⟨V, e⟩ := h.vws
  by_cases hj : j < m.views.length
  ·rw [e, An hj] at hv
   rcases hp.lv j v hv with h1 | h1
   ·exact .inl h1
   ·exact .inr (h1.mono h.nodes)
  ·have hlt := (Ai.1 hv).1
   have e1 := (h.vok.at_ j v hv).1
   obtain ⟨x, hx, hk⟩ := h.used j (by have := hp.vok.len; omega) (by have := h.vok.len; omega)
   exact .inr ⟨x, by rw [h.nodes]; exact Cm _ hx, hk.1, by rw [hk.2, e1]⟩
 nd := fun x hx hk => by
  obtain ⟨I, e⟩ := h.inf
  have hl : m.infos.length ≤ m'.infos.length := by rw [e, Ah]; omega
  rw [h.nodes] at hx
  rcases Bh.1 hx with h1 | h1
  ·have := hp.nd x h1 hk; omega
  ·rcases h.ok x h1 with h2 | h2 | h2
   ·rw [h2.kind] at hk; cases hk
   ·rw [h2.kind] at hk; cases hk
   ·have := (Ai.1 h2.at_).1
    have := h2.inf
    omega
 fit := h.fit
 pnd := hd
 most := by rw [h.most]; exact hp.most
 il := h.il
 ps := by rw [h.ps]; exact hp.ps
def aAw (fns : T eJ) (S0 : St) (mb db : Nat) (LV : List (Int × Int × Int)) (lev : Nat) : Prop := ∀ (X : St) (P : Nat → Prop) (m : Mk) (v : AV) (rows : List (List Int)), kL P S0 X mb db m LV → S0.nx ≤ X.nx → aB3 lev m → 1 ≤ m.pend → rG (fun c => PB mb db m c ∧ P c) X v rows → rows.length = m.ps.toNat → (∀ l ∈ rows, l.length ≤ lev) → (∀ p ∈ LV, p.1 < m.ps) →
 iM fns (.fn 86 [] []) [.ptr mb 0, .int .i64 (lev : Int), v] X fun r Z => r = .int .i64 ((m.nodes.length : Nat) : Int) ∧ ∃ m' B, tO m m' B 1 ∧ oW (LV.length - lev) m.nodes.length B ∧ kL (fun c => P c ∨ X.nx ≤ c) S0 Z mb db m' LV ∧ eO mb db m X m' Z
noncomputable def aK2 : AC := (.block 0 (.loop (.seq (.seq (.reg [mt 131 12,
mt 132 9,
oq 133 (bi .lss (.t 131) (.t 132))])
(.cond (.t 133) .skip (.exit 0)))
(.seq (.block 1 (.seq (.seq (.reg [oq 136 (.faddr 0 (.t 8)),
oq 137 (ld 136),
oq 138 (bi .lss (.t 137) (ci 0))])
(.cond (.t 138) (.drw [oq 139 (.faddr 4 (.t 11)),
om 140 1 (ld 139),
mt 141 0,
om 142 4 (.nilchk (.t 141)),
om 143 12 (.faddr 0 (.t 142)),
om 144 28 (ld 143),
oc 145 38 [(.t 144),(ci 3)] 60,
om 146 124 (bi .add (ci 1) (.t 145)),
⟨(some 147),(.a (.bslice 3 1 1 [(.int .i64 (.ofNat 0))] [(0,(.t 146))])),none,252⟩,
⟨(some 148),(.x (.app 3 1 8 (.t 140) (.t 147))),none,511⟩,
om 149 1023 (.faddr 4 (.t 11)),
⟨none,(.x (.st 1 (.t 149) (.t 148))),none,2047⟩]) .skip))
(.seq (.reg [oq 13 (.mv (.c .nilsl))])
(.seq (.seq (.reg [oq 14 (.mv (ci 0))])
(.block 2 (.loop (.seq (.seq (.reg [mt 150 14,
mt 151 2,
oq 152 (.lenSl (.t 151)),
oq 153 (bi .lss (.t 150) (.t 152))])
(.cond (.t 153) .skip (.exit 2)))
(.seq (.block 3 (.seq (.reg [⟨(some 156),(.a (.bslice 3 1 0 [(.int .i64 (.ofNat 0))] [])),none,0⟩,
mt 157 2,
mt 158 14,
oq 159 (.iaddr (.slice 1) (.t 157) (.t 158)),
oq 160 (ld 159),
⟨(some 161),(.x (.app 3 1 8 (.t 156) (.t 160))),none,0⟩,
mt 15 161])
(.seq (.seq (.reg [mt 162 14,
oq 163 (.faddr 0 (.t 8)),
oq 164 (ld 163),
oq 165 (bi .eql (.t 162) (.t 164)),
mt 166 165,
og 167 166 false 0 (.faddr 2 (.t 8)),
og 168 166 false 0 (ld 167),
og 169 166 false 0 (.mv (.t 14)),
og 170 166 false 0 (bi .shr (.t 168) (.t 169)),
og 171 166 false 0 (bi .and (.t 170) (ci 1)),
og 172 166 false 0 (bi .eql (.t 171) (ci 1)),
oq 173 (.pick (.t 166) (.c (.bool true)) (.t 172))])
(.cond (.t 173) (.reg [mt 174 15,
mt 175 12,
⟨(some 176),(.a (.bslice 3 1 1 [(.int .i64 (.ofNat 0))] [(0,(.t 175))])),none,0⟩,
⟨(some 177),(.x (.app 3 1 8 (.t 174) (.t 176))),none,0⟩,
mt 15 177]) (.reg [mt 178 15,
⟨(some 179),(.a (.bslice 3 1 1 [(.int .i64 (.ofNat 0))] [(0,(.c (.int .i64 (.negSucc 0))))])),none,0⟩,
⟨(some 180),(.x (.app 3 1 8 (.t 178) (.t 179))),none,0⟩,
mt 15 180])))
(.reg [mt 181 13,
mt 182 15,
⟨(some 183),(.a (.bslice 22 1 1 [.nilsl] [(0,(.t 182))])),none,0⟩,
⟨(some 184),(.x (.app 22 1 24 (.t 181) (.t 183))),none,0⟩,
mt 13 184]))))
(.reg [mt 154 14,
oq 155 (bi .add (.t 154) (ci 1)),
mt 14 155]))))))
(.drw [oq 185 (.faddr 3 (.t 11)),
om 186 1 (ld 185),
mt 187 0,
mt 188 1,
om 189 8 (bi .add (.t 188) (ci 1)),
mt 190 13,
oc 191 86 [(.t 187),(.t 189),(.t 190)] 60,
⟨(some 192),(.a (.bslice 3 1 1 [(.int .i64 (.ofNat 0))] [(0,(.t 191))])),none,124⟩,
⟨(some 193),(.x (.app 3 1 8 (.t 186) (.t 192))),none,255⟩,
om 194 511 (.faddr 3 (.t 11)),
⟨none,(.x (.st 1 (.t 194) (.t 193))),none,1023⟩])))))
(.reg [mt 134 12,
oq 135 (bi .add (.t 134) (ci 1)),
mt 12 135])))))
def Pin (P : Nat → Prop) (X : St) (xb : Nat) (xa xw : AV) (c : Nat) : Prop := (P c ∨ X.nx ≤ c) ∧ c ≠ xb ∧ aQ xa ≠ some c ∧ aQ xw ≠ some c
structure KdR (P : Nat → Prop) (S0 X X1 : St) (mb db xb : Nat) (LV : List (Int × Int × Int)) (K : Nat) (m1 : Mk) (xk xp xf : AV) (pl : Int) (Y : St) (i iw : Nat) (mi : Mk) (cs : List Int) (C : List cM) (ws : List Int) (xa xw : AV) : Prop where
 mkb : kL (Pin P X xb xa xw) S0 Y mb db mi LV
 bld : tO m1 mi C (i : Int)
 forT : aBc K m1.nodes.length cs C
 len : cs.length = i
 wts : (pl < 0 → ws.length = iw ∧ ∀ w ∈ ws, 1 ≤ w ∧ w ≤ 3) ∧ (¬ pl < 0 → ws = [])
 nx : X1.nx ≤ Y.nx
 frm : ∀ c, c < X1.nx → PB mb db m1 c → PB mb db mi c ∧ (c ≠ xb → Y.h.get c = X1.h.get c)
 gx : Y.h.get xb = some (.cells [xk, xp, xf, xa, xw, .nilsl] false 0)
 ga : gN 1 X1 Y xa cs.length (bB cs)
 gw : gN 1 X1 Y xw ws.length (bB ws)
 pa : ∀ c, aQ xa = some c → PB mb db mi c
 pw : ∀ c, aQ xw = some c → PB mb db mi c
 ne : ∀ c, aQ xa = some c → aQ xw ≠ some c
theorem KdR.same {P : Nat → Prop} {S0 X X1 : St} {mb db xb : Nat} {LV : List (Int × Int × Int)} {K : Nat} {m1 : Mk} {xk xp xf : AV} {pl : Int} {Y Z : St} {i iw : Nat} {mi : Mk} {cs : List Int} {C : List cM} {ws : List Int} {xa xw : AV} (h : KdR P S0 X X1 mb db xb LV K m1 xk xp xf pl Y i iw mi cs C ws xa xw) (hx : xb < X1.nx) (hs : Same Y Z) : KdR P S0 X X1 mb db xb LV K m1 xk xp xf pl Z i iw mi cs C ws xa xw where
 mkb := h.mkb.same hs
 bld := h.bld
 forT := h.forT
 len := h.len
 wts := h.wts
 nx := Al h.nx hs.1
 frm := fun c hc hp => ⟨(h.frm c hc hp).1, fun hne => (hs.2 c (Ae hc h.nx)).trans ((h.frm c hc hp).2 hne)⟩
 gx := (hs.2 xb (Ae hx h.nx)).trans h.gx
 ga := h.ga.step hs
 gw := h.gw.step hs
 pa := h.pa
 pw := h.pw
 ne := h.ne
def KdI (P : Nat → Prop) (S0 X X1 : St) (mb db xb : Nat) (LV : List (Int × Int × Int)) (K : Nat) (m1 : Mk) (xk xp xf : AV) (pl : Int) (many : Nat) (F0 : Fr) (k : Nat) (A : bT) (Y : St) : Prop := A.inr = false ∧ (∀ j, j < 12 → aC j A.F = aC j F0) ∧ ∃ i mi cs C ws xa xw, i + k = many ∧ KdR P S0 X X1 mb db xb LV K m1 xk xp xf pl Y i i mi cs C ws xa xw ∧ aC 12 A.F = .int .i64 (i : Int)
theorem aFi {P : Nat → Prop} {S0 X X1 : St} {F : Fr} {mb db tb xb : Nat} {LV : List (Int × Int × Int)} {m1 : Mk} {xk xp xf v : AV} {pl mn sn : Int} {many lev : Nat} {rows : List (List Int)} {Q : Out → bT → St → Prop} (H : Has fns) (hIH : aAw fns S0 mb db LV (lev + 1)) (hP : ∀ c, P c → c < X.nx) (hX : X.nx ≤ X1.nx) (hM : kL (fun c => (P c ∨ X.nx ≤ c) ∧ c ≠ xb) S0 X1 mb db m1 LV) (hS : S0.nx ≤ X.nx) (hpre : aB3 (lev + 1) m1) (hpend : (many : Int) ≤ m1.pend) (hmany : many ≤ 3) (hlev : lev ≤ 800)
  (hLP : ∀ p ∈ LV, p.1 < m1.ps) (hseen : rG (fun c => PB mb db m1 c ∧ P c) X1 v rows) (hrn : rows.length = m1.ps.toNat) (hrl : ∀ l ∈ rows, l.length ≤ lev) (ltb : tb < X1.nx) (lxb : xb < X1.nx) (xxb : X.nx ≤ xb) (ntx : tb ≠ xb) (ptb : PB mb db m1 tb) (pxb : PB mb db m1 xb) (gtb : X1.h.get tb = some (.cells [.int .i64 pl, .int .i64 mn, .int .i64 sn] false 0)) (gxb : X1.h.get xb = some (.cells [xk, xp, xf, .nilsl, .nilsl, .nilsl] false 0)) (hsn : 0 ≤ sn ∧ sn ≤ 1000)
  (p0 : aC 0 F = .ptr mb 0) (p1 : aC 1 F = .int .i64 (lev : Int)) (p2 : aC 2 F = v) (p8 : aC 8 F = .ptr tb 0) (p9 : aC 9 F = .int .i64 (many : Int)) (p11 : aC 11 F = .ptr xb 0) (p12 : aC 12 F = .int .i64 0)
  (hQ : ∀ F' Y mi cs C ws xa xw, (∀ j, j < 12 → aC j F' = aC j F) → KdR P S0 X X1 mb db xb LV (LV.length - (lev + 1)) m1 xk xp xf pl Y many many mi cs C ws xa xw → Q .normal ⟨F', false⟩ Y) : kH fns aK2 ⟨F, false⟩ X1 Q := by
 unfold aK2
 refine bN (Q := fun o A' Z => o = .normal ∧ KdI P S0 X X1 mb db xb LV (LV.length - (lev + 1)) m1 xk xp xf pl many F 0 A' Z) (aU (cI (KdI P S0 X X1 mb db xb LV (LV.length - (lev + 1)) m1 xk xp xf pl many F) ?_ many _ _ ⟨rfl, fun _ _ => rfl, 0, m1, [], [], [], .nilsl, .nilsl, by omega, ⟨hM.mono fun c _ h => ⟨h.1, h.2, (by intro e; cases e), (by intro e; cases e)⟩, tO.refl hpre, aBc.nil, rfl, ⟨fun _ => ⟨rfl, fun w hw => by cases hw⟩, fun _ => rfl⟩, Af _, fun c _ hp => ⟨hp, fun _ => rfl⟩, gxb, .inl ⟨rfl, rfl, rfl⟩, .inl ⟨rfl, rfl, rfl⟩, fun c hc => (by cases hc), fun c hc => (by cases hc), fun c hc => (by cases hc)⟩, p12⟩)) ?_
 rotate_left
 ·rintro o ⟨F', inr⟩ Z ⟨rfl, q0, hk, i, mi, cs, C, ws, xa, xw, hik, hR, _⟩
  simp only at q0 hk
  subst q0
  obtain rfl : i = many := by omega
  exact hQ F' Z mi cs C ws xa xw hk hR
 rintro k ⟨G, inr⟩ Y ⟨q0, hk, i, mi, cs, C, ws, xa, xw, hik, hR, g12⟩
 simp only at q0 hk g12
 subst q0
 have g0 : aC 0 G = .ptr mb 0 := (hk 0 (by omega)).trans p0
 have g1 : aC 1 G = .int .i64 (lev : Int) := (hk 1 (by omega)).trans p1
 have g2 : aC 2 G = v := (hk 2 (by omega)).trans p2
 have g8 : aC 8 G = .ptr tb 0 := (hk 8 (by omega)).trans p8
 have g9 : aC 9 G = .int .i64 (many : Int) := (hk 9 (by omega)).trans p9
 have g11 : aC 11 G = .ptr xb 0 := (hk 11 (by omega)).trans p11
 refine jH ?_
 simp only [↓sU,sD,rE,↓reduceIte,rA, g9, g12]
 by_cases hlt : i < many
 rotate_left
 ·refine aT (by simp only [↓sU,sD,rE,↓reduceIte,rA, Aa (show ¬ (i : Int) < (many : Int) by omega)]) (cC ?_)
  simp only [↓sU,sD,rE,↓reduceIte,rA]
  have hk0 : k = 0 := by omega
  subst hk0
  refine ⟨rfl, fun j hj => ?_, i, mi, cs, C, ws, xa, xw, hik, hR, by simp only [↓sU,sD,rE,↓reduceIte,rA, g12]⟩
  rw [← hk j hj]
  have : j = 0 ∨ j = 1 ∨ j = 2 ∨ j = 3 ∨ j = 4 ∨ j = 5 ∨ j = 6 ∨ j = 7 ∨ j = 8 ∨ j = 9 ∨ j = 10 ∨ j = 11 := by omega
  rcases this with rfl | rfl | rfl | rfl | rfl | rfl | rfl | rfl | rfl | rfl | rfl | rfl <;> simp only [↓sU,sD,rE,↓reduceIte,rA]
 refine aY (by simp only [↓sU,sD,rE,↓reduceIte,rA, Ad (show (i : Int) < (many : Int) by omega)]) (aN ?_)
 try simp only [↓sU,sD,rE,↓reduceIte,rA]
 have w1 : IntKind.i64.wrap ((i : Int) + 1) = ((i + 1 : Nat) : Int) := by rw [wrap_i64 (by omega) (by omega)]; omega
 have gtY := ((hR.frm tb ltb ptb).2 ntx).trans gtb
 have t0 := cS (p := 0) gtY rfl
 refine aD (aU (aD (bN (Q := fun o A' Z => o = .normal ∧ A'.inr = false ∧ (∀ j, j < 13 → aC j A'.F = aC j G) ∧ ∃ ws' xw', KdR P S0 X X1 mb db xb LV (LV.length - (lev + 1)) m1 xk xp xf pl Z i (i + 1) mi cs C ws' xa xw') (aD (aP ?_)) ?_)))
 ·simp only [↓sU,sD,rE,↓reduceIte,rA, g8, aA, aB, t0]
  by_cases hpl : pl < 0
  ·refine aY (by simp only [↓sU,sD,rE,↓reduceIte,rA, Ad hpl]) ?_
   have hmk : kL (fun c => Pin P X xb xa xw c ∧ c < Y.nx) S0 Y mb db mi LV := hR.mkb.mono fun c hc h => ⟨h, hc⟩
   have hlw := (hR.wts.1 hpl).1
   refine aJJ (Y0 := X1) (mb := mb) (db := db) (xb := xb) (m := mi) (LV := LV) (pv := xw) (l := ws) H rfl hmk (by simp only [↓sU,sD,rE,↓reduceIte,rA, g0]) (by simp only [↓sU,sD,rE,↓reduceIte,rA, g11]) hR.gx ⟨(hR.frm xb lxb pxb).1, fun h => h.1.2.1 rfl⟩ lxb hR.nx hR.gw (fun c hc => ⟨hR.pw c hc, fun h => h.1.2.2.2 hc⟩) (fun c hc h => by have := h.2; omega) (by omega) ?_
   intro F' Z xw' w hk' hZ nZ kZ gZ hgZ hbZ w2 w3
   have lowa : ∀ {c}, aQ xa = some c → X1.nx ≤ c ∧ c < Y.nx := fun hc => ⟨(hR.ga.blk hc).1, (hR.ga.blk hc).2.1⟩
   refine ⟨rfl, rfl, fun j hj => ?_, ws ++ [w], xw', hZ.mono fun c hc h => ⟨h.1.1, h.1.2.1, h.1.2.2.1, fun e => by have := hbZ c e; have := h.2; omega⟩, hR.bld, hR.forT, hR.len, ⟨fun _ => ⟨by rw [Ah, Aq, hlw], fun u hu => ?_⟩, fun h => absurd hpl h⟩, Al hR.nx nZ, fun c hc hp => ⟨(hR.frm c hc hp).1, fun hne => (kZ c (Ae hc hR.nx) (hR.frm c hc hp).1 hne (fun e => by have := (hR.gw.blk e).1; omega)).trans ((hR.frm c hc hp).2 hne)⟩, gZ, hR.ga.move nZ fun c hc => kZ c (lowa hc).2 (hR.pa c hc) (by have := (lowa hc).1; omega) (hR.ne c hc), hgZ, hR.pa, fun c hc => hR.mkb.p.fresh (hbZ c hc), fun c hc e => by have := hbZ c e; have := (lowa hc).2; omega⟩
   ·have hj16 := hk' j (by omega)
    rw [hj16]
    have : j = 0 ∨ j = 1 ∨ j = 2 ∨ j = 3 ∨ j = 4 ∨ j = 5 ∨ j = 6 ∨ j = 7 ∨ j = 8 ∨ j = 9 ∨ j = 10 ∨ j = 11 ∨ j = 12 := by omega
    rcases this with rfl | rfl | rfl | rfl | rfl | rfl | rfl | rfl | rfl | rfl | rfl | rfl | rfl <;> simp only [↓sU,sD,rE,↓reduceIte,rA]
   ·rcases Bh.1 hu with h | h
    ·exact (hR.wts.1 hpl).2 u h
    ·rw [Cf.1 h]; exact ⟨w2, w3⟩
  ·refine aT (by simp only [↓sU,sD,rE,↓reduceIte,rA, Aa hpl]) (aN ?_)
   simp only [↓sU,sD,rE,↓reduceIte,rA]
   refine ⟨fun j hj => ?_, ws, xw, ⟨hR.mkb, hR.bld, hR.forT, hR.len, ⟨fun h => absurd h hpl, hR.wts.2⟩, hR.nx, hR.frm, hR.gx, hR.ga, hR.gw, hR.pa, hR.pw, hR.ne⟩⟩
   have : j = 0 ∨ j = 1 ∨ j = 2 ∨ j = 3 ∨ j = 4 ∨ j = 5 ∨ j = 6 ∨ j = 7 ∨ j = 8 ∨ j = 9 ∨ j = 10 ∨ j = 11 ∨ j = 12 := by omega
   rcases this with rfl | rfl | rfl | rfl | rfl | rfl | rfl | rfl | rfl | rfl | rfl | rfl | rfl <;> simp only [↓sU,sD,rE,↓reduceIte,rA]
 clear hR gtY t0
 rintro o ⟨G1, inr⟩ Z ⟨rfl, q0, k1, ws', xw', hZ⟩
 simp only at q0 k1
 subst q0
 have b0 : aC 0 G1 = .ptr mb 0 := (k1 0 (by omega)).trans g0
 have b1 : aC 1 G1 = .int .i64 (lev : Int) := (k1 1 (by omega)).trans g1
 have b2 : aC 2 G1 = v := (k1 2 (by omega)).trans g2
 have b8 : aC 8 G1 = .ptr tb 0 := (k1 8 (by omega)).trans g8
 have b11 : aC 11 G1 = .ptr xb 0 := (k1 11 (by omega)).trans g11
 have b12 : aC 12 G1 = .int .i64 (i : Int) := (k1 12 (by omega)).trans g12
 have gtZ := ((hZ.frm tb ltb ptb).2 ntx).trans gtb
 have hps := hpre.ps
 have hseenZ : rG (fun c => PB mb db mi c ∧ P c) Z v rows := hseen.move hZ.nx fun c hc hp => ⟨(hZ.frm c hc hp.1).2 (by have := hP c hp.2; omega), (hZ.frm c hc hp.1).1, hp.2⟩
 try simp only [↓sU,sD,rE,↓reduceIte,rA]
 refine cF ?_
 simp only [↓sU,sD,rE,↓reduceIte,rA]
 refine jH ?_
 simp only [↓sU,sD,rE,↓reduceIte,rA]
 refine aF0 (tb := tb) (lev := lev) (pl := pl) (many := mn) (sn := sn) (i := (i : Int)) hseenZ hrl (by omega) (by omega) (by simp only [↓sU,sD,rE,↓reduceIte,rA, b2]) (by simp only [↓sU,sD,rE,↓reduceIte,rA, b8]) gtZ (by have := hZ.nx; omega) hsn (by simp only [↓sU,sD,rE,↓reduceIte,rA, b12]) (by simp only [↓sU,sD,rE,↓reduceIte,rA]) (by simp only [↓sU,sD,rE,↓reduceIte,rA]; try rfl) ?_
 intro F3 Z3 nv A' k3 e13 s3 hlA hlenA hsA
 have c0 := k3 0 (by omega)
 have c1 := k3 1 (by omega)
 have c11 := k3 11 (by omega)
 have c12 := k3 12 (by omega)
 simp only [↓sU,sD,rE,↓reduceIte,rA, b0, b1, b11, b12] at c0 c1 c11 c12
 try simp only [↓sU,sD,rE,↓reduceIte,rA]
 have hZ3 := hZ.same lxb s3
 have hm3 : kL (fun c => Pin P X xb xa xw' c ∧ c < Z3.nx) S0 Z3 mb db mi LV := hZ3.mkb.mono fun c hc h => ⟨h, hc⟩
 have hnd : mi.nodes.length = m1.nodes.length + C.length := by rw [hZ3.bld.nodes, Ah]
 have hpn := hZ3.bld.pend
 have lowa : ∀ {c}, aQ xa = some c → X1.nx ≤ c ∧ c < Z.nx := fun hc => ⟨(hZ.ga.blk hc).1, (hZ.ga.blk hc).2.1⟩
 have loww : ∀ {c}, aQ xw' = some c → X1.nx ≤ c ∧ c < Z.nx := fun hc => ⟨(hZ.gw.blk hc).1, (hZ.gw.blk hc).2.1⟩
 have nZ3 := hZ3.nx
 have hcl := hZ3.len
 refine aJT (Y0 := X1) (mb := mb) (db := db) (xb := xb) (m := mi) (LV := LV) (xa := xa) (l := cs) (nv := nv) (lev := (lev : Int)) (G := fun c m' => c = ((mi.nodes.length : Nat) : Int) ∧ ∃ B, tO mi m' B 1 ∧ oW (LV.length - (lev + 1)) mi.nodes.length B) rfl hm3 (fun c h => h.2) c0 c1 (by omega) c11 e13 hZ3.gx ⟨(hZ3.frm xb lxb pxb).1, fun h => h.1.2.1 rfl⟩ lxb hZ3.nx hZ3.ga (fun c hc => ⟨hZ3.pa c hc, fun h => h.1.2.2.1 hc⟩) (by omega) ?_ ?_
 ·intro X4 x4
  have hcall := hIH X4 (fun c => Pin P X xb xa xw' c ∧ c < Z3.nx) mi nv A' (hm3.same x4) (by have := x4.1; omega) (hZ3.bld.pre hpre (by omega)) (by omega) (hsA.move x4.1 fun c hc hp => ⟨x4.2 c hc, hZ.mkb.p.fresh hp.1, ⟨.inr (by have := hZ.nx; omega), by have := hZ.nx; omega, fun e => by have := (lowa e).2; omega, fun e => by have := (loww e).2; omega⟩, hp.2⟩) (by rw [hlA, hrn, hZ3.bld.ps]) hlenA (fun p hp => by rw [hZ3.bld.ps]; exact hLP p hp)
  rw [show ((lev : Int) + 1) = ((lev + 1 : Nat) : Int) by omega]
  refine aW hcall ?_
  rintro r W ⟨rfl, m', B, hB, hT, hW, bW⟩
  exact ⟨_, m', rfl, ⟨rfl, B, hB, hT⟩, hW, bW⟩
 ·rintro F5 W xa' c m' k5 ⟨rfl, B, hB, hT⟩ hW nW pW kW gxW gaW paW
  have d12 := k5 12 (by omega)
  rw [c12] at d12
  try simp only [↓sU,sD,rE,↓reduceIte,rA]
  refine aP ?_
  simp only [↓sU,sD,rE,↓reduceIte,rA, d12, w1]
  have hbt := hZ3.bld.trans hB
  rw [show ((i : Int) + 1) = ((i + 1 : Nat) : Int) by omega] at hbt
  have hft := hZ3.forT.snoc (B := B) (by rw [← hnd]; exact hT)
  rw [← hnd] at hft
  have hxaz : ∀ {c}, aQ xa' = some c → Z3.nx ≤ c := fun hc => (paW _ hc).1
  refine ⟨k - 1, by omega, rfl, fun j hj => ?_, i + 1, m', cs ++ [((mi.nodes.length : Nat) : Int)], C ++ B, ws', xa', xw', by omega, ⟨hW.mono fun c hc h => ?_, hbt, hft, by rw [Ah, Aq, hcl], hZ3.wts, by omega, fun c hc hp => ⟨pW c (by omega) (hZ3.frm c hc hp).1, fun hne => (kW c (by omega) (hZ3.frm c hc hp).1 hne (fun e => by have := (lowa e).1; omega)).trans ((hZ3.frm c hc hp).2 hne)⟩, gxW, gaW, hZ3.gw.move nW fun c hc => kW c (by have := (loww hc).2; have := s3.1; omega) (hZ3.pw c hc) (by have := (loww hc).1; omega) (fun e => hZ3.ne c e hc), fun c hc => (paW c hc).2, fun c hc => pW c (by have := (loww hc).2; have := s3.1; omega) (hZ3.pw c hc), fun c hc e => by have := hxaz hc; have := (loww e).2; have := s3.1; omega⟩, by simp only [↓sU,sD,rE,↓reduceIte,rA]⟩
  ·have e5 := k5 j (by omega)
   have e3 := k3 j (by omega)
   rw [← hk j hj, ← k1 j (by omega)]
   have : j = 0 ∨ j = 1 ∨ j = 2 ∨ j = 3 ∨ j = 4 ∨ j = 5 ∨ j = 6 ∨ j = 7 ∨ j = 8 ∨ j = 9 ∨ j = 10 ∨ j = 11 := by omega
   rcases this with rfl | rfl | rfl | rfl | rfl | rfl | rfl | rfl | rfl | rfl | rfl | rfl <;> (simp only [↓sU,sD,rE,↓reduceIte,rA] at e3; simp only [↓sU,sD,rE,↓reduceIte,rA, e5, e3])
  ·rcases h.1 with h1 | h1
   ·exact ⟨h1.1.1, h1.1.2.1, h.2, h1.1.2.2.2⟩
   ·exact ⟨.inr (by omega), by omega, h.2, fun e => by have := (loww e).2; have := s3.1; omega⟩
end Go.Ev.Gl
