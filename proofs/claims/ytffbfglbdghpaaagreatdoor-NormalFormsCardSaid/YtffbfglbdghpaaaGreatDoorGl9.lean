/- Contracts (9): rational numbers, the statements' tools, the law. -/
import Derived.Test.YtffbfglbdghpaaaGreatDoorGl8
set_option maxHeartbeats 4000000
set_option linter.unusedSimpArgs false
set_option linter.unusedVariables false
namespace Go.Ev.Gl
variable {fns : T AFn}

/-! ## Check, of both (given the images) -/
theorem SceneB.same {S S' : St} {wb plb szb : Nat} {pv nv iv : AV} {g : PGame} {R Z : List Int} (h : SceneB S wb plb szb pv nv iv g R Z) (hs : Same S S') : SceneB S' wb plb szb pv nv iv g R Z :=
  ⟨h.w.same hs, (hs.2 _ h.bp).trans h.gp, (hs.2 _ h.bz).trans h.gz, h.lp, h.lz, Nat.lt_of_lt_of_le h.bp hs.1, Nat.lt_of_lt_of_le h.bz hs.1⟩
end Go.Ev.Gl

namespace Go.Ev.Gl
variable {fns : T AFn}

/-! ## Product, of both (given the images) -/
end Go.Ev.Gl

namespace Go.Ev.Gl
variable {fns : T AFn}

/-! ## Infos and Actions, of both (given the images) -/
end Go.Ev.Gl

namespace Go.Ev.Gl
variable {fns : T AFn}

/-! ## The reference's Inverse (given the images) -/
end Go.Ev.Gl

namespace Go.Ev.Gl
variable {fns : T AFn}

/-! ## The program's Inverse (given the image) -/
end Go.Ev.Gl

namespace Go.Ev.Gl
variable {fns : T AFn}

/-! ## Automorphisms, plain -/
def nodeAt (g : PGame) (i : Nat) : PNode := g.nodes.getD i ⟨0, 0, 0, [], [], []⟩
/-- the image of a node -/
def toM (m : List Int) (i : Nat) : Nat := (m.getD i 0).toNat
/-- the place of the image of the k-th child of i below the image of i; -1 if it is not there -/
def kidP (g : PGame) (m : List Int) (i k : Nat) : Int := placeF (nodeAt g (toM m i)).next 0 (m.getD ((nodeAt g i).next.getD k 0).toNat 0)
structure Auto (g : PGame) (m : List Int) : Prop where
  root : m.getD 0 0 = 0
  like : ∀ i, i < g.nodes.length → (nodeAt g i).kind = (nodeAt g (toM m i)).kind ∧ (nodeAt g i).next.length = (nodeAt g (toM m i)).next.length ∧ (nodeAt g i).pay = (nodeAt g (toM m i)).pay ∧ (nodeAt g i).player = (nodeAt g (toM m i)).player
  kid : ∀ i k, i < g.nodes.length → k < (nodeAt g i).next.length → 0 ≤ kidP g m i k
  weigh : ∀ i k, i < g.nodes.length → k < (nodeAt g i).next.length → (nodeAt g i).kind = 1 → (nodeAt g i).weights.getD k 0 = (nodeAt g (toM m i)).weights.getD (kidP g m i k).toNat 0
  info : ∀ i j, i < g.nodes.length → j < g.nodes.length → (nodeAt g i).kind = 2 → (nodeAt g j).kind = 2 → (nodeAt g i).info = (nodeAt g j).info → (nodeAt g (toM m i)).info = (nodeAt g (toM m j)).info ∧ ∀ k, k < (nodeAt g i).next.length → kidP g m i k = kidP g m j k
  inj : ∀ i j, i < g.nodes.length → j < g.nodes.length → (nodeAt g i).kind = 2 → (nodeAt g j).kind = 2 → (nodeAt g (toM m i)).info = (nodeAt g (toM m j)).info → (nodeAt g i).info = (nodeAt g j).info
/-- the first node of a set -/
def firstOf (g : PGame) (s : Nat) : Nat := firstN g.nodes 0 s - 1
/-- the images of the sets, and of their actions -/
def imgI (g : PGame) (m : List Int) : List Int := (List.range g.infos.length).map fun s => (nodeAt g (toM m (firstOf g s))).info
def imgA (g : PGame) (m : List Int) : List (List Int) := (List.range g.infos.length).map fun s => (List.range (nodeAt g (firstOf g s)).next.length).map fun k => kidP g m (firstOf g s) k
end Go.Ev.Gl

namespace Go.Ev.Gl
variable {fns : T AFn}

/-! ## What a game without an error is, plain -/
theorem nextOf_at (g : PGame) (i : Nat) : nextOf g i = (nodeAt g i).next := by
  unfold nextOf nodeAt
  rw [List.getD_eq_getElem?_getD]
  cases g.nodes[i]? <;> rfl
structure GoodG (g : PGame) : Prop where
  n1 : 0 < g.nodes.length
  n2 : g.nodes.length ≤ 2000
  ni : g.infos.length ≤ 200
  nxt : ∀ i, i < g.nodes.length → (nodeAt g i).next.length ≤ 1000
  pay : ∀ i, i < g.nodes.length → (nodeAt g i).pay.length ≤ 4
  wts : ∀ i, i < g.nodes.length → (nodeAt g i).kind = 1 → (nodeAt g i).weights.length = (nodeAt g i).next.length
  inf : ∀ i, i < g.nodes.length → (nodeAt g i).kind = 2 → 0 ≤ (nodeAt g i).info ∧ (nodeAt g i).info < g.infos.length ∧ (infoAt g (nodeAt g i).info).actions = (((nodeAt g i).next.length : Nat) : Int)
  fst : ∀ s, s < g.infos.length → firstOf g s < g.nodes.length ∧ (nodeAt g (firstOf g s)).kind = 2 ∧ (nodeAt g (firstOf g s)).info = (s : Int)
  walk : ∃ T, walkG g = some T ∧ T.length = g.nodes.length ∧ WF (nextOf g) 0 (-1) T
/-! ## What has been seen of a map -/
def Like (g : PGame) (m : List Int) (i : Nat) : Prop := (nodeAt g i).kind = (nodeAt g (toM m i)).kind ∧ (nodeAt g i).next.length = (nodeAt g (toM m i)).next.length ∧ (nodeAt g i).pay = (nodeAt g (toM m i)).pay ∧ (nodeAt g i).player = (nodeAt g (toM m i)).player
def Weigh (g : PGame) (m : List Int) (i k : Nat) : Prop := (nodeAt g i).kind = 1 → (nodeAt g i).weights.getD k 0 = (nodeAt g (toM m i)).weights.getD (kidP g m i k).toNat 0
structure Seen (g : PGame) (m : List Int) (V : Nat → Prop) (W : Nat → Nat → Prop) (I : List Int) (A : List (List Int)) : Prop where
  li : I.length = g.infos.length
  la : A.length = g.infos.length
  ls : ∀ s, s < g.infos.length → (((A.getD s []).length : Nat) : Int) = (infoAt g (s : Int)).actions
  iv : ∀ j, j < g.nodes.length → V j → (nodeAt g j).kind = 2 → I.getD (nodeAt g j).info.toNat 0 = (nodeAt g (toM m j)).info
  iw : ∀ s, s < g.infos.length → 0 ≤ I.getD s 0 → ∃ j, j < g.nodes.length ∧ V j ∧ (nodeAt g j).kind = 2 ∧ (nodeAt g j).info = (s : Int)
  lk : ∀ j, j < g.nodes.length → V j → Like g m j
  kd : ∀ j k, j < g.nodes.length → k < (nodeAt g j).next.length → W j k → 0 ≤ kidP g m j k ∧ Weigh g m j k ∧ ((nodeAt g j).kind = 2 → (A.getD (nodeAt g j).info.toNat []).getD k 0 = kidP g m j k)
/-- a map of the nodes -/
structure MapG (g : PGame) (m : List Int) : Prop where
  len : m.length = g.nodes.length
  inn : InMap m g.nodes.length
section
variable {g : PGame} {m : List Int} {V V' : Nat → Prop} {W W' : Nat → Nat → Prop} {I F : List Int} {A : List (List Int)}
theorem MapG.at (h : MapG g m) {i : Nat} (hi : i < g.nodes.length) : m.getD i 0 = ((toM m i : Nat) : Int) ∧ toM m i < g.nodes.length := by
  have hl : i < m.length := by rw [h.len]; exact hi
  have hmem : m.getD i 0 ∈ m := by rw [List.getD_eq_getElem?_getD, List.getElem?_eq_getElem hl]; exact List.getElem_mem _
  have := h.inn _ hmem
  unfold toM
  omega
theorem Seen.congr (h : Seen g m V W I A) (hV : ∀ j, j < g.nodes.length → (V j ↔ V' j)) (hW : ∀ j k, j < g.nodes.length → k < (nodeAt g j).next.length → W' j k → W j k) : Seen g m V' W' I A :=
  ⟨h.li, h.la, h.ls, fun j hj hv => h.iv j hj ((hV j hj).2 hv), fun s hs h0 => by obtain ⟨j, a, b, c⟩ := h.iw s hs h0; exact ⟨j, a, (hV j a).1 b, c⟩, fun j hj hv => h.lk j hj ((hV j hj).2 hv), fun j k hj hk hw => h.kd j k hj hk (hW j k hj hk hw)⟩
theorem getD_setL {l : List (List Int)} {n j : Nat} {x : List Int} (hn : n < l.length) : (l.set n x).getD j [] = if n = j then x else l.getD j [] := by
  rw [List.getD_eq_getElem?_getD, List.getElem?_set]
  split
  · rfl
  · rw [List.getD_eq_getElem?_getD]
theorem Seen.node (h : Seen g m V W I A) {i : Nat} (hl : Like g m i) (hk : (nodeAt g i).kind ≠ 2) : Seen g m (fun j => V j ∨ j = i) W I A :=
  ⟨h.li, h.la, h.ls, fun j hj hv hk' => by
    rcases hv with hv | rfl
    · exact h.iv j hj hv hk'
    · exact absurd hk' hk, fun s hs h0 => by obtain ⟨j, a, b, c⟩ := h.iw s hs h0; exact ⟨j, a, .inl b, c⟩, fun j hj hv => by
    rcases hv with hv | rfl
    · exact h.lk j hj hv
    · exact hl, h.kd⟩
theorem Seen.kid (h : Seen g m V W I A) {i k : Nat} (h0 : 0 ≤ kidP g m i k) (hw : Weigh g m i k) (hk : (nodeAt g i).kind ≠ 2) : Seen g m V (fun j k' => W j k' ∨ (j = i ∧ k' = k)) I A :=
  ⟨h.li, h.la, h.ls, h.iv, h.iw, h.lk, fun j k' hj hk' hv => by
    rcases hv with hv | ⟨rfl, rfl⟩
    · exact h.kd j k' hj hk' hv
    · exact ⟨h0, hw, fun e => absurd e hk⟩⟩
/-! ### a map that is no automorphism -/
theorem Seen.inj (h : Seen g m (fun _ => True) W I A) (G : GoodG g) (hd : ∀ a b, b < a → a < g.infos.length → I.getD a 0 ≠ I.getD b 0) : ∀ i j, i < g.nodes.length → j < g.nodes.length → (nodeAt g i).kind = 2 → (nodeAt g j).kind = 2 → (nodeAt g (toM m i)).info = (nodeAt g (toM m j)).info → (nodeAt g i).info = (nodeAt g j).info := fun i j hi hj hki hkj e => by
  obtain ⟨a1, a2, _⟩ := G.inf i hi hki
  obtain ⟨b1, b2, _⟩ := G.inf j hj hkj
  have ia := h.iv i hi trivial hki
  have ib := h.iv j hj trivial hkj
  rcases Nat.lt_trichotomy (nodeAt g i).info.toNat (nodeAt g j).info.toNat with h1 | h1 | h1
  · exact absurd (by rw [ia, ib, e]) (hd _ _ h1 (by omega))
  · omega
  · exact absurd (by rw [ia, ib, e]) (hd _ _ h1 (by omega))
/-- what is known at the end -/
theorem Seen.auto (h : Seen g m (fun _ => True) (fun _ _ => True) I A) (G : GoodG g) (root : m.getD 0 0 = 0) (inj : ∀ i j, i < g.nodes.length → j < g.nodes.length → (nodeAt g i).kind = 2 → (nodeAt g j).kind = 2 → (nodeAt g (toM m i)).info = (nodeAt g (toM m j)).info → (nodeAt g i).info = (nodeAt g j).info) : Auto g m := by
  refine ⟨root, fun i hi => h.lk i hi trivial, fun i k hi hk => (h.kd i k hi hk trivial).1, fun i k hi hk => (h.kd i k hi hk trivial).2.1, fun i j hi hj hki hkj e => ⟨?_, fun k hk => ?_⟩, inj⟩
  · rw [← h.iv i hi trivial hki, ← h.iv j hj trivial hkj, e]
  · have a3 := (G.inf i hi hki).2.2
    have b3 := (G.inf j hj hkj).2.2
    rw [← e, a3] at b3
    rw [← (h.kd i k hi hk trivial).2.2 hki, ← (h.kd j k hj (by omega) trivial).2.2 hkj, e]
theorem Seen.imgI (h : Seen g m (fun _ => True) W I A) (G : GoodG g) : I = imgI g m := by
  refine rowEq (by rw [h.li]; simp [Gl.imgI]) fun s hs => ?_
  have hs : s < g.infos.length := by simpa [Gl.imgI] using hs
  obtain ⟨f1, f2, f3⟩ := G.fst s hs
  have := h.iv _ f1 trivial f2
  rw [f3] at this
  rw [show ((s : Int)).toNat = s by omega] at this
  rw [this]
  unfold Gl.imgI
  rw [List.getD_eq_getElem?_getD, List.getElem?_map, List.getElem?_range hs]
  rfl
theorem Seen.imgA (h : Seen g m V (fun _ _ => True) I A) (G : GoodG g) : A = imgA g m := by
  refine List.ext_getElem? fun s => ?_
  by_cases hs : s < g.infos.length
  · obtain ⟨f1, f2, f3⟩ := G.fst s hs
    have a3 := (G.inf _ f1 f2).2.2
    have hl := h.ls s hs
    rw [f3] at a3
    unfold Gl.imgA
    rw [List.getElem?_map, List.getElem?_range hs, List.getElem?_eq_getElem (show s < A.length by rw [h.la]; exact hs)]
    have hA : A[s]'(by rw [h.la]; exact hs) = A.getD s [] := by rw [List.getD_eq_getElem?_getD, List.getElem?_eq_getElem (show s < A.length by rw [h.la]; exact hs)]; rfl
    rw [hA]
    show some _ = some _
    congr 1
    refine rowEq (by simp only [List.length_map, List.length_range]; omega) fun k hk => ?_
    have hk : k < (nodeAt g (firstOf g s)).next.length := by simpa using hk
    have := (h.kd _ k f1 hk trivial).2.2 f2
    rw [f3, show ((s : Int)).toNat = s by omega] at this
    rw [this, List.getD_eq_getElem?_getD, List.getElem?_map, List.getElem?_range hk]
    rfl
  · rw [List.getElem?_eq_none (by rw [h.la]; omega), List.getElem?_eq_none (by simp [Gl.imgA]; omega)]
end
end Go.Ev.Gl

namespace Go.Ev.Gl
variable {fns : T AFn}

/-! ## Rows in a block of slices -/
def rowV (b : Nat) (l : List Int) : AV := .sl b 0 l.length l.length false
structure Rws (S0 X : St) (bs : Nat → Nat) (cs : List AV) (A : List (List Int)) : Prop where
  cl : ∀ j, j < A.length → cs[j]? = some (rowV (bs j) (A.getD j []))
  bl : ∀ j, j < A.length → S0.nx ≤ bs j ∧ bs j < X.nx ∧ X.h.get (bs j) = some (.cells (cells64 (A.getD j [])) false 0)
  dj : ∀ j k, j < A.length → k < A.length → j ≠ k → bs j ≠ bs k
section
variable {S0 X X' : St} {bs : Nat → Nat} {cs : List AV} {A : List (List Int)}
theorem Rws.move (h : Rws S0 X bs cs A) (hn : X.nx ≤ X'.nx) (hh : ∀ j, j < A.length → X'.h.get (bs j) = X.h.get (bs j)) : Rws S0 X' bs cs A :=
  ⟨h.cl, fun j hj => by obtain ⟨a, b, c⟩ := h.bl j hj; exact ⟨a, Nat.lt_of_lt_of_le b hn, (hh j hj).trans c⟩, h.dj⟩
theorem Rws.same (h : Rws S0 X bs cs A) (hs : Same X X') : Rws S0 X' bs cs A := h.move hs.1 fun j hj => hs.2 _ (h.bl j hj).2.1
theorem Rws.none : Rws S0 X bs cs [] := ⟨fun j hj => absurd hj (Nat.not_lt_zero j), fun j hj => absurd hj (Nat.not_lt_zero j), fun j k hj => absurd hj (Nat.not_lt_zero j)⟩
theorem getD_appL {l : List (List Int)} {x : List Int} {j : Nat} : (l ++ [x]).getD j [] = if j = l.length then x else l.getD j [] := by
  rw [List.getD_eq_getElem?_getD, List.getD_eq_getElem?_getD]
  by_cases h : j < l.length
  · rw [List.getElem?_append_left h, if_neg (by omega)]
  · rw [List.getElem?_append_right (by omega)]
    by_cases e : j = l.length
    · rw [if_pos e, e, Nat.sub_self]; rfl
    · rw [if_neg e, List.getElem?_eq_none (by simp; omega), List.getElem?_eq_none (by omega)]
theorem Rws.add (h : Rws S0 X bs cs A) {nb : Nat} {l : List Int} {cs' : List AV} (h0 : S0.nx ≤ nb) (h1 : nb < X.nx) (hg : X.h.get nb = some (.cells (cells64 l) false 0)) (hne : ∀ j, j < A.length → bs j ≠ nb) (hc : ∀ j, j < A.length → cs'[j]? = cs[j]?) (hl : cs'[A.length]? = some (rowV nb l)) : Rws S0 X (fun j => if j = A.length then nb else bs j) cs' (A ++ [l]) := by
  refine ⟨fun j hj => ?_, fun j hj => ?_, fun j k hj hk hjk => ?_⟩
  · rw [List.length_append, List.length_singleton] at hj
    rw [getD_appL]
    try simp only
    by_cases e : j = A.length
    · rw [if_pos e, if_pos e, e]; exact hl
    · rw [if_neg e, if_neg e, hc j (by omega)]; exact h.cl j (by omega)
  · rw [List.length_append, List.length_singleton] at hj
    rw [getD_appL]
    try simp only
    by_cases e : j = A.length
    · rw [if_pos e, if_pos e]; exact ⟨h0, h1, hg⟩
    · rw [if_neg e, if_neg e]; exact h.bl j (by omega)
  · rw [List.length_append, List.length_singleton] at hj hk
    try simp only
    by_cases e : j = A.length
    · rw [if_pos e, if_neg (by omega)]; exact Ne.symm (hne k (by omega))
    · rw [if_neg e]
      by_cases e2 : k = A.length
      · rw [if_pos e2]; exact hne j (by omega)
      · rw [if_neg e2]; exact h.dj j k (by omega) (by omega) hjk
theorem Rws.put (h : Rws S0 X bs cs A) {s k : Nat} {v : Int} (hs : s < A.length) {n : Nat} (hn : X.nx ≤ n) : Rws S0 ⟨X.h.set (bs s) (some (.cells (cells64 ((A.getD s []).set k v)) false 0)), n⟩ bs cs (A.set s ((A.getD s []).set k v)) := by
  refine ⟨fun j hj => ?_, fun j hj => ?_, fun j k hj hk => ?_⟩
  · rw [List.length_set] at hj
    rw [getD_setL hs, h.cl j hj]
    split
    · rename_i e
      unfold rowV
      rw [List.length_set, e]
    · rfl
  · rw [List.length_set] at hj
    rw [getD_setL hs]
    obtain ⟨a, b, c⟩ := h.bl j hj
    refine ⟨a, Nat.lt_of_lt_of_le b hn, ?_⟩
    try simp only
    rw [T.get_set]
    by_cases e : s = j
    · rw [if_pos e, if_pos (by rw [e])]
    · rw [if_neg e, if_neg (h.dj j s hj hs (Ne.symm e))]; exact c
  · rw [List.length_set] at hj hk; exact h.dj j k hj hk
theorem Rws.is (h : Rws S0 X bs cs A) {ob cap sz : Nat} {o o' : Bool} (hob : X.h.get ob = some (.cells cs o sz)) (lt : ob < X.nx) (hc : A.length ≤ cap) : IsSlG 1 SlE X (.sl ob 0 A.length cap o') A := by
  refine .inr ⟨ob, 0, cap, o', cs, rfl, hc, lt, by unfold cellsAt; rw [hob]; rfl, fun i l hi => ?_⟩
  have hlt := (List.getElem?_eq_some_iff.1 hi).1
  have e : A.getD i [] = l := by rw [List.getD_eq_getElem?_getD, hi]; rfl
  have h1 := h.cl i hlt
  obtain ⟨_, h3, h4⟩ := h.bl i hlt
  rw [e] at h1 h4
  refine ⟨[rowV (bs i) l], rfl, fun j x hj => ?_, _, rfl, row_sl h4 h3 rfl⟩
  cases j with
  | zero =>
    cases hj
    rw [Nat.zero_add, Nat.mul_one, Nat.add_zero]
    exact h1
  | succ j => simp at hj
end
end Go.Ev.Gl

namespace Go.Ev.Gl
variable {fns : T AFn}

/-! ## The reference's images: the first loop -/
theorem GrW.move {k n : Nat} {S0 S S' : St} {v : AV} {cs : List AV} (h : GrW k S0 S v n cs) (hn : S.nx ≤ S'.nx) (hh : ∀ c, blkOf v = some c → S'.h.get c = S.h.get c) : GrW k S0 S' v n cs := by
  rcases h with h | ⟨b, rfl, h2, h3, h4, h5⟩
  · exact .inl h
  · exact .inr ⟨b, rfl, h2, Nat.lt_of_lt_of_le h3 hn, (hh b rfl).trans h4, h5⟩
theorem IsSl.place {k : IntKind} {S : St} {v : AV} {l : List Int} (h : IsSl k S v l) {i : Nat} (hi : i < l.length) : ∃ b p, elemP v i = .ptr b p ∧ b < S.nx := by
  rcases h with ⟨h0, _⟩ | ⟨b, off, cap, o, cs, rfl, _, hb, _⟩
  · rw [h0] at hi; exact absurd hi (Nat.not_lt_zero _)
  · exact ⟨b, _, rfl, hb⟩
theorem GrW.low {k n : Nat} {S S1 X : St} {v : AV} {cs : List AV} (h : GrW k S1 X v n cs) (hs : S.nx ≤ S1.nx) : GrW k S X v n cs := by
  rcases h with h | ⟨b, h1, h2, h3⟩
  · exact .inl h
  · exact .inr ⟨b, h1, Nat.le_trans hs h2, h3⟩
theorem Rws.low {S S1 X : St} {bs : Nat → Nat} {cs : List AV} {A : List (List Int)} (h : Rws S1 X bs cs A) (hs : S.nx ≤ S1.nx) : Rws S X bs cs A := ⟨h.cl, fun j hj => by obtain ⟨a, b⟩ := h.bl j hj; exact ⟨Nat.le_trans hs a, b⟩, h.dj⟩
def XImgP (g : PGame) (m : List Int) (S S' : St) (x y : AV) : Prop := GrW 1 S S' x g.infos.length (cells64 (imgI g m)) ∧ ∃ cs bs, GrW 1 S S' y g.infos.length cs ∧ Rws S S' bs cs (imgA g m)

end Go.Ev.Gl

namespace Go.Ev.Gl
variable {fns : T AFn}

/-! ## What the program's walk has seen of a map, plain -/
structure SeenP (g : PGame) (m : List Int) (n e : Nat) (I F : List Int) (A : List (List Int)) : Prop where
  s : Seen g m (fun j => j < n) (fun j k => (nodeAt g j).next.getD k 0 < (e : Int)) I A
  lf : F.length = g.infos.length
  fv : ∀ j, j < g.nodes.length → j < n → (nodeAt g j).kind = 2 → F.getD (nodeAt g (toM m j)).info.toNat 0 = (nodeAt g j).info
  fw : ∀ t, t < g.infos.length → 0 ≤ F.getD t 0 → ∃ j, j < g.nodes.length ∧ j < n ∧ (nodeAt g j).kind = 2 ∧ (nodeAt g (toM m j)).info = (t : Int)
  aw : ∀ s, s < g.infos.length → ∀ k, k < (A.getD s []).length → 0 ≤ (A.getD s []).getD k 0 → ∃ j, j < g.nodes.length ∧ (nodeAt g j).kind = 2 ∧ (nodeAt g j).info = (s : Int) ∧ k < (nodeAt g j).next.length ∧ (nodeAt g j).next.getD k 0 < (e : Int)
section
variable {g : PGame} {m : List Int} {I F : List Int} {A : List (List Int)} {n e : Nat}
theorem SeenP.node (h : SeenP g m n e I F A) (hl : Like g m n) (hk : (nodeAt g n).kind ≠ 2) : SeenP g m (n + 1) e I F A :=
  ⟨(h.s.node hl hk).congr (fun j _ => by omega) (fun _ _ _ _ h => h), h.lf, fun j hj hn hkj => by
    by_cases e : j = n
    · rw [e] at hkj; exact absurd hkj hk
    · exact h.fv j hj (by omega) hkj, fun t ht h0 => by obtain ⟨j, a, b, c⟩ := h.fw t ht h0; exact ⟨j, a, by omega, c⟩, h.aw⟩
/-- what follows of the walk for parents and children -/
theorem GoodG.kids (G : GoodG g) : ∀ j, j < g.nodes.length → ∀ k, k < (nodeAt g j).next.length → (j : Int) < (nodeAt g j).next.getD k 0 ∧ (nodeAt g j).next.getD k 0 < g.nodes.length := fun j hj k hk => by
  obtain ⟨T, _, hTl, hW⟩ := G.walk
  have hm : (nodeAt g j).next.getD k 0 ∈ (nodeAt g j).next := by rw [List.getD_eq_getElem?_getD, List.getElem?_eq_getElem hk]; exact List.getElem_mem _
  have := hW.cf j (by omega) _ (by rw [Nat.zero_add, nextOf_at]; exact hm)
  omega
theorem GoodG.only (G : GoodG g) {j k j' k' : Nat} (hj : j < g.nodes.length) (hk : k < (nodeAt g j).next.length) (hj' : j' < g.nodes.length) (hk' : k' < (nodeAt g j').next.length) (e : (nodeAt g j).next.getD k 0 = (nodeAt g j').next.getD k' 0) : j = j' ∧ k = k' := by
  obtain ⟨T, _, hTl, hW⟩ := G.walk
  have mem : ∀ {j k : Nat}, k < (nodeAt g j).next.length → (nodeAt g j).next.getD k 0 ∈ (nodeAt g j).next := fun {j k} hk => by rw [List.getD_eq_getElem?_getD, List.getElem?_eq_getElem hk]; exact List.getElem_mem _
  have h1 := (hW.cf j (by omega) _ (by rw [Nat.zero_add, nextOf_at]; exact mem hk)).2.2
  have h2 := (hW.cf j' (by omega) _ (by rw [Nat.zero_add, nextOf_at]; exact mem hk')).2.2
  rw [e, h2] at h1
  have hjj : j = j' := by have := Option.some.inj h1; omega
  subst hjj
  have hinc := hW.inc j (by omega)
  rw [Nat.zero_add, nextOf_at] at hinc
  refine ⟨rfl, ?_⟩
  rw [List.getD_eq_getElem?_getD, List.getD_eq_getElem?_getD, List.getElem?_eq_getElem hk, List.getElem?_eq_getElem hk'] at e
  have e : (nodeAt g j).next[k] = (nodeAt g j).next[k'] := e
  rcases Nat.lt_trichotomy k k' with h | h | h
  · have := List.pairwise_iff_getElem.1 hinc k k' hk hk' h; omega
  · exact h
  · have := List.pairwise_iff_getElem.1 hinc k' k hk' hk h; omega
theorem SeenP.kid (G : GoodG g) (h : SeenP g m n n I F A) {i k : Nat} (hi : i < g.nodes.length) (hkl : k < (nodeAt g i).next.length) (hc : (nodeAt g i).next.getD k 0 = (n : Int)) (h0 : 0 ≤ kidP g m i k) (hw : Weigh g m i k) (hk : (nodeAt g i).kind ≠ 2) : SeenP g m n (n + 1) I F A :=
  ⟨(h.s.kid h0 hw hk).congr (fun _ _ => Iff.rfl) (fun j k' hj hk' h => by
    by_cases e : (nodeAt g j).next.getD k' 0 = (n : Int)
    · exact .inr (G.only hj hk' hi hkl (by rw [e, hc]))
    · exact .inl (by omega)), h.lf, h.fv, h.fw, fun s hs k hk h0 => by obtain ⟨j, a, b, c, d, e⟩ := h.aw s hs k hk h0; exact ⟨j, a, b, c, d, by omega⟩⟩
/-- the rows of a map that is not known yet -/
def unkA (g : PGame) : List (List Int) := g.infos.map fun x => List.replicate x.actions.toNat (-1)
theorem SeenP.start (G : GoodG g) (m : List Int) : SeenP g m 0 1 (List.replicate g.infos.length (-1)) (List.replicate g.infos.length (-1)) (unkA g) := by
  have hrep : ∀ (n t : Nat), t < n → ¬ 0 ≤ (List.replicate n (-1 : Int)).getD t 0 := fun n t ht h0 => by
    rw [List.getD_eq_getElem?_getD, List.getElem?_replicate, if_pos ht] at h0
    exact absurd h0 (by decide)
  have hun : ∀ s, s < g.infos.length → (unkA g).getD s [] = List.replicate (infoAt g (s : Int)).actions.toNat (-1) := fun s hs => by
    unfold unkA infoAt
    rw [List.getD_eq_getElem?_getD, List.getElem?_map, List.getD_eq_getElem?_getD, Int.toNat_natCast, List.getElem?_eq_getElem hs]
    rfl
  refine ⟨⟨List.length_replicate .., by unfold unkA; rw [List.length_map], fun s hs => ?_, fun j _ hj => by omega, fun s hs h0 => absurd h0 (hrep _ _ hs), fun j _ hj => by omega, fun j k hj hk hw => ?_⟩, List.length_replicate .., fun j _ hj => by omega, fun t ht h0 => absurd h0 (hrep _ _ ht), fun s hs k hk h0 => ?_⟩
  · obtain ⟨f1, f2, f3⟩ := G.fst s hs
    have hac := (G.inf _ f1 f2).2.2
    rw [f3] at hac
    rw [hun s hs, List.length_replicate]
    omega
  · have := (G.kids j hj k hk).1
    omega
  · rw [hun s hs] at hk h0
    rw [List.length_replicate] at hk
    exact absurd h0 (hrep _ _ hk)
theorem SeenP.full (h : SeenP g m g.nodes.length g.nodes.length I F A) (G : GoodG g) (M : MapG g m) (root : m.getD 0 0 = 0) : Auto g m ∧ I = imgI g m ∧ A = imgA g m := by
  have hS : Seen g m (fun _ => True) (fun _ _ => True) I A := h.s.congr (fun j hj => ⟨fun _ => trivial, fun _ => hj⟩) fun j k hj hk _ => (G.kids j hj k hk).2
  refine ⟨hS.auto G root fun i j hi hj hki hkj e => ?_, hS.imgI G, hS.imgA G⟩
  rw [← h.fv i hi hi hki, ← h.fv j hj hj hkj, e]
end
end Go.Ev.Gl
