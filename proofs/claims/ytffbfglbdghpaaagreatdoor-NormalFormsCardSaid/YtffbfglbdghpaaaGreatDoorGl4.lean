/- Contracts (4): rational numbers, the statements' tools, the law. -/
import Derived.Test.YtffbfglbdghpaaaGreatDoorGl3
open Nat (reduceEqDiff reduceAdd)
set_option maxHeartbeats 4000000
set_option linter.unusedSimpArgs false
set_option linter.unusedVariables false
namespace Go.Ev.Gl
variable {fns : T AFn}

/-! ## The reference's natural numbers: functions with the same code -/
theorem wpf_swap {i j : Nat} {fn : AFn} (hi : fns.get i = some fn) (hj : fns.get j = some fn) {args : List AV} {S : St} {Q : AV → St → Prop} (h : wpf fns (.fn i [] []) args S Q) : wpf fns (.fn j [] []) args S Q := by
  obtain ⟨n, v, S', h1, h2⟩ := h
  cases n with
  | zero => cases h1
  | succ n =>
    refine ⟨n + 1, v, S', ?_, h2⟩
    have e1 : (ev fns (n + 1)).call (.fn i [] []) args S = osel (fns.get i) (fun f => callFn f (appL [] (appL args [])) (ev fns n) S) := rfl
    have e2 : (ev fns (n + 1)).call (.fn j [] []) args S = osel (fns.get j) (fun f => callFn f (appL [] (appL args [])) (ev fns n) S) := rfl
    rw [e2, hj, ← hi, ← e1]
    exact h1
theorem xtrim_spec {S : St} {v : AV} {l : List Nat} (H : Has fns) (h : LimbIs S v l) (hs : Small l) (hlen : l.length < 1000000000000) : wpf fns (.fn 115 [] []) [v] S fun r S' => NatIs S r (val l) ∧ S' = S :=
  wpf_swap H.f122 H.f115 (trim_spec H.f122 h hs hlen)
theorem xorder_spec {S : St} {a b : AV} {x y : Nat} (H : Has fns) (ha : NatIs S a x) (hb : NatIs S b y) (hx : Fits x) : wpf fns (.fn 112 [] []) [a, b] S fun r S' => r = .int .i64 (cmpI x y) ∧ Same S S' :=
  wpf_swap H.f82 H.f112 (cmp_spec H.f82 ha hb hx)

/-! ## The reference's natural numbers: Check -/
def XChkI (S : St) (v : AV) (l : List Nat) (k : Nat) (A : Act') (S' : St) : Prop :=
  A.inr = false ∧ S' = S ∧ ∃ i : Nat, i + k = l.length ∧ tmpV 0 A.F = v ∧ tmpV 3 A.F = .int .i64 (i : Int) ∧ Small (l.take i)
theorem xcheck_spec {S : St} {v : AV} {l : List Nat} (H : Has fns) (h : LimbIs S v l) : wpf fns (.fn 88 [] []) [v] S fun r S' => r = .int .i64 (chk l) ∧ S' = S := by
  have hB : B = 1000000000 := rfl
  refine wpf_fn H.f88 (by simp) ?_
  simp only [↓stU, stD, reduceEqDiff, ↓reduceIte]
  refine wsr ?_
  simp only [↓stU, stD, reduceEqDiff, ↓reduceIte]
  refine wss ?_
  simp only [↓stU, stD, reduceEqDiff, ↓reduceIte, h.len]
  by_cases h1 : 1024 < l.length
  · refine wpc_yes (by simp only [↓stU, stD, reduceEqDiff, ↓reduceIte, decide_eq_true (show (1024 : Int) < ((l.length : Nat) : Int) by omega)]) ?_
    refine wsr ?_
    simp only [↓stU, stD, reduceEqDiff, ↓reduceIte]
    refine wpc_ret ?_
    simp only [↓stU, stD, reduceEqDiff, ↓reduceIte, chk, if_pos h1]
  refine wpc_non (by simp only [↓stU, stD, reduceEqDiff, ↓reduceIte, decide_eq_false (show ¬ (1024 : Int) < ((l.length : Nat) : Int) by omega)]) (wpc_skip ?_)
  simp only [↓stU, stD, reduceEqDiff, ↓reduceIte]
  have bad : ¬ Norm l → chk l = 3 := fun hn => by unfold chk; rw [if_neg h1, if_neg hn]
  refine wpc_seq (wpc_mono (Q := fun o A' S' => S' = S ∧ ((o = .normal ∧ A'.inr = false ∧ tmpV 0 A'.F = v ∧ Small l) ∨ (o = .ret ∧ tmpV 2 A'.F = .int .i64 3 ∧ ¬ Norm l))) ?_ ?_)
  · refine wsr ?_
    simp only [↓stU, stD, reduceEqDiff, ↓reduceIte]
    refine wpc_block (wpc_loop (XChkI S v l) ?_ l.length _ _ ⟨rfl, rfl, 0, by omega, by simp only [↓stU, stD, reduceEqDiff, ↓reduceIte], by simp only [↓stU, stD, reduceEqDiff, ↓reduceIte], by simp [Small]⟩)
    rintro k ⟨F, inr⟩ S' ⟨q0, hS', i, hik, p0, p3, hsm⟩
    simp only at q0 p0 p3
    subst q0
    rw [hS']
    refine wss ?_
    by_cases hi : i < l.length
    · simp only [↓stU, stD, reduceEqDiff, ↓reduceIte, p0, p3, h.len, decide_eq_true (show (i : Int) < ((l.length : Nat) : Int) by omega)]
      refine wpc_yes (by simp only [↓stU, stD, reduceEqDiff, ↓reduceIte]) (wpc_skip ?_)
      simp only [↓stU, stD, reduceEqDiff, ↓reduceIte]
      have hld := h.ld hi
      rw [List.getD_eq_getElem?_getD] at hld
      have htk : l.take (i + 1) = l.take i ++ [l[i]?.getD 0] := by rw [List.take_add_one, List.getElem?_eq_getElem hi]; rfl
      have hmem : l[i]?.getD 0 ∈ l := by rw [List.getElem?_eq_getElem hi]; exact List.getElem_mem hi
      generalize l[i]?.getD 0 = x at *
      refine wpc_seq (wpc_block (wpc_seq (wpc_reg ?_)))
      simp only [↓stU, stD, reduceEqDiff, ↓reduceIte, p0, p3, h.iaddr hi, hld]
      by_cases hx : 1000000000 ≤ x
      · refine wpc_yes (by simp only [↓stU, stD, reduceEqDiff, ↓reduceIte, decide_eq_true (show (1000000000 : Int) ≤ (x : Int) by omega)]) ?_
        refine wsr ?_
        simp only [↓stU, stD, reduceEqDiff, ↓reduceIte]
        refine wpc_ret ?_
        simp only [↓stU, stD, reduceEqDiff, ↓reduceIte]
        exact .inr fun hn => by have := hn.1 x hmem; omega
      · refine wpc_non (by simp only [↓stU, stD, reduceEqDiff, ↓reduceIte, decide_eq_false (show ¬ (1000000000 : Int) ≤ (x : Int) by omega)]) (wpc_skip ?_)
        simp only [↓stU, stD, reduceEqDiff, ↓reduceIte]
        refine wpc_reg ?_
        have w1 : IntKind.i64.wrap ((i : Int) + 1) = ((i + 1 : Nat) : Int) := by rw [wrap_i64 (by omega) (by omega)]; omega
        simp only [↓stU, stD, reduceEqDiff, ↓reduceIte, p3, w1]
        refine ⟨k - 1, by omega, rfl, rfl, i + 1, by omega, by simp only [↓stU, stD, reduceEqDiff, ↓reduceIte, p0], by simp only [↓stU, stD, reduceEqDiff, ↓reduceIte], ?_⟩
        rw [htk]
        exact Small.append.2 ⟨hsm, small_one (by omega)⟩
    · simp only [↓stU, stD, reduceEqDiff, ↓reduceIte, p0, p3, h.len, decide_eq_false (show ¬ (i : Int) < ((l.length : Nat) : Int) by omega)]
      refine wpc_non (by simp only [↓stU, stD, reduceEqDiff, ↓reduceIte]) (wpc_exit ?_)
      simp only [↓stU, stD, reduceEqDiff, ↓reduceIte, p0]
      rw [List.take_of_length_le (by omega)] at hsm
      exact .inl hsm
  rintro o ⟨F, inr⟩ S' ⟨hS', ⟨rfl, q0, p0, hsm⟩ | ⟨rfl, p2, hbad⟩⟩
  · simp only at q0 p0
    subst q0
    rw [hS']
    try simp only [↓stU, stD, reduceEqDiff, ↓reduceIte]
    have hnorm : Norm l ↔ l.getLast? ≠ some 0 := ⟨fun hn => hn.2, fun hn => ⟨hsm, hn⟩⟩
    refine wpc_seq (wpc_seq (wpc_mono (Q := fun o A' S' => o = .normal ∧ S' = S ∧ ∃ b, tmpV 29 A'.F = .bool b ∧ (b = true ↔ ¬ Norm l)) ?_ ?_))
    · refine wpc_reg ?_
      by_cases h0 : l = []
      · subst h0
        simp only [↓stU, stD, reduceEqDiff, ↓reduceIte, p0, h.len]
        exact ⟨false, by simp [norm_nil]⟩
      · have hp := List.length_pos_iff.2 h0
        obtain ⟨j, hj⟩ : ∃ j, l.length = j + 1 := ⟨l.length - 1, by omega⟩
        have hld := h.ld (i := j) (by omega)
        rw [List.getD_eq_getElem?_getD] at hld
        have hlast : l.getLast? = some (l[j]?.getD 0) := by
          rw [List.getLast?_eq_getElem?, hj, Nat.add_sub_cancel, List.getElem?_eq_getElem (by omega)]; rfl
        have w1 : IntKind.i64.wrap (((l.length : Nat) : Int) - 1) = (j : Int) := by rw [wrap_i64 (by omega) (by omega)]; omega
        simp only [↓stU, stD, reduceEqDiff, ↓reduceIte, p0, h.len, decide_eq_true (show (0 : Int) < ((l.length : Nat) : Int) by omega), w1, h.iaddr (show j < l.length by omega), hld]
        refine ⟨decide (((l[j]?.getD 0 : Nat) : Int) = 0), rfl, ?_⟩
        rw [hnorm, hlast]
        simp
    rintro o ⟨F, inr⟩ S' ⟨rfl, hS', b, p29, hb⟩
    simp only at p29
    rw [hS']
    try simp only [↓stU, stD, reduceEqDiff, ↓reduceIte]
    cases b with
    | true =>
      refine wpc_yes (by simp only [↓stU, stD, reduceEqDiff, ↓reduceIte, p29]) ?_
      refine wsr ?_
      simp only [↓stU, stD, reduceEqDiff, ↓reduceIte]
      refine wpc_ret ?_
      simp only [↓stU, stD, reduceEqDiff, ↓reduceIte, bad (hb.1 rfl)]
    | false =>
      refine wpc_non (by simp only [↓stU, stD, reduceEqDiff, ↓reduceIte, p29]) (wpc_skip ?_)
      try simp only [↓stU, stD, reduceEqDiff, ↓reduceIte]
      refine wsr ?_
      simp only [↓stU, stD, reduceEqDiff, ↓reduceIte]
      refine wpc_ret ?_
      have hn : Norm l := Classical.byContradiction fun h => by have := hb.2 h; cases this
      simp only [↓stU, stD, reduceEqDiff, ↓reduceIte, chk_zero.2 ⟨by omega, hn⟩]
  · simp only at p2
    rw [hS']
    simp only [↓stU, stD, reduceEqDiff, ↓reduceIte, p2, bad hbad]

/-- one limb -/
theorem xsmall_spec {S : St} {x : Nat} (H : Has fns) (hx : x < B) : wpf fns (.fn 113 [] []) [.int .u32 (x : Int)] S fun r S' => NatIs S' r x ∧ Same S S' := by
  refine wpf_fn H.f113 (by simp) ?_
  simp only [↓stU, stD, reduceEqDiff, ↓reduceIte]
  refine wsr ?_
  simp only [↓stU, stD, reduceEqDiff, ↓reduceIte]
  refine wsr ?_
  simp only [↓stU, stD, reduceEqDiff, ↓reduceIte]
  refine wpo_al (evA_one (k := .u32) (n := (x : Int)) (by simp only [↓stU, stD, reduceEqDiff, ↓reduceIte])) ?_
  intro S1 s1 n1 g1
  try simp only [↓stU, stD, reduceEqDiff, ↓reduceIte]
  refine wpo_call ?_
  simp only [↓stU, stD, reduceEqDiff, ↓reduceIte]
  have h : LimbIs S1 (.sl S.nx 0 1 1 false) [x] := limbs_own (l := [x]) (o := false) (sz := 0) g1 (by omega) rfl (Nat.le_refl _)
  refine wpf_mono (xtrim_spec H h (small_one hx) (by simp)) ?_
  rintro r T ⟨hr, hT⟩
  rw [hT]
  try simp only [↓stU, stD, reduceEqDiff, ↓reduceIte]
  refine wpc_ret ?_
  simp only [↓stU, stD, reduceEqDiff, ↓reduceIte]
  rw [show val [x] = x by simp [val]] at hr
  exact ⟨hr, s1⟩
end Go.Ev.Gl

namespace Go.Ev.Gl
variable {fns : T AFn}

/-! ## The reference's sums and differences -/
theorem getD_ge {l : List Nat} {i : Nat} (h : ¬ i < l.length) : l[i]?.getD 0 = 0 := by rw [List.getElem?_eq_none (by omega)]; rfl
/-! ## What is trimmed lies where it lay -/
theorem slHead_head (v : AV) (i j : Nat) : slHead (slHead v i) j = slHead v j := by cases v <;> rfl
theorem xtrim_gen {S : St} {v : AV} {l : List Nat} (H : Has fns) (h : LimbIs S v l) (hs : Small l) (hlen : l.length < 1000000000000) : wpf fns (.fn 115 [] []) [v] S fun r S' => S' = S ∧ ∃ n, n ≤ l.length ∧ Norm (l.take n) ∧ val (l.take n) = val l ∧ LimbIs S r (l.take n) ∧ (r = v ∧ n = l.length ∨ n < l.length ∧ r = slHead v n) := by
  refine wpf_fn H.f115 (by simp) ?_
  simp
  refine wsr ?_
  simp
  refine wpc_seq (wpc_block (wpc_loop (fun k A S' => S' = S ∧ A.inr = false ∧ k ≤ l.length ∧ ∃ u, tmpV 0 A.F = u ∧ LimbIs S u (l.take k) ∧ val (l.take k) = val l ∧ (u = v ∧ k = l.length ∨ k < l.length ∧ u = slHead v k)) ?_ l.length _ _ ⟨rfl, rfl, Nat.le_refl _, v, by simp, by rw [List.take_length]; exact h, by rw [List.take_length], .inl ⟨rfl, rfl⟩⟩))
  rintro k ⟨F, inr⟩ S' ⟨rfl, rfl, hk, u, h0, hu, hv, hor⟩
  simp only at h0
  refine wss ?_
  rcases Nat.eq_zero_or_pos k with hm | hm
  · subst hm
    have hl0 := hu.len
    simp at hl0
    simp [h0, hl0]
    refine wpc_non (by simp) (wpc_exit ?_)
    simp
    refine wsr ?_
    simp [h0]
    refine wpc_ret ?_
    simp
    exact ⟨0, by omega, by simpa using norm_nil, hv, hu, hor⟩
  · obtain ⟨j, rfl⟩ : ∃ j, k = j + 1 := ⟨k - 1, by omega⟩
    have hL : (l.take (j + 1)).length = j + 1 := by rw [List.length_take]; omega
    have htk : l.take (j + 1) = l.take j ++ [l[j]?.getD 0] := by rw [List.take_add_one, List.getElem?_eq_getElem (by omega)]; rfl
    have hlt : j < (l.take (j + 1)).length := by omega
    have hpos : (0 : Int) < (j : Int) + 1 := by omega
    have e1 : IntKind.i64.wrap (j : Int) = (j : Int) := wrap_i64 (by omega) (by omega)
    have hlen' := hu.len
    rw [hL] at hlen'
    have hiad := hu.iaddr hlt
    have hld := hu.ld hlt
    have e2 : (l.take (j + 1)).getD j 0 = l[j]?.getD 0 := by rw [List.getD_eq_getElem?_getD, List.getElem?_take, if_pos (by omega)]
    rw [e2] at hld
    have hvv := val_take_get l j
    have hnx : l[j]?.getD 0 ≠ 0 → Norm (l.take (j + 1)) := fun hx => ⟨hs.take _, by rw [htk]; simpa using hx⟩
    generalize l[j]?.getD 0 = x at *
    simp [h0, hlen', hpos, e1, hiad, hld]
    refine wpc_if (t := decide (x = 0)) (by simp) (fun hx => wpc_skip ?_) (fun hx => wpc_exit ?_)
    · have hx : x = 0 := by simpa using hx
      subst hx
      simp
      refine wpc_block (wpc_reg ?_)
      have hh := hu.head hlt
      rw [List.take_take, Nat.min_eq_left (by omega)] at hh
      simp [h0, hlen', e1, hu.slc hlt]
      refine ⟨j, by omega, by omega, hh, by rw [← hv, hvv, Nat.mul_zero, Nat.add_zero], .inr ⟨by omega, ?_⟩⟩
      rcases hor with ⟨rfl, _⟩ | ⟨_, rfl⟩
      · rfl
      · rw [slHead_head]
    · have hx : x ≠ 0 := by simpa using hx
      simp
      refine wsr ?_
      simp [h0]
      refine wpc_ret ?_
      simp
      exact ⟨j + 1, hk, hnx hx, hv, hu, hor⟩

/-- limbs in a block of one's own -/
def OwnIs (S0 S : St) (v : AV) (l : List Nat) : Prop :=
  (l = [] ∧ v = .nilsl) ∨ ∃ b cap o e s rest, v = .sl b 0 l.length cap o ∧ l.length ≤ cap ∧ S0.nx ≤ b ∧ b < S.nx ∧ S.h.get b = some (.cells (cells32 (l ++ rest)) e s)
theorem OwnIs.limbs {S0 S : St} {v : AV} {l : List Nat} (h : OwnIs S0 S v l) : LimbIs S v l := by
  rcases h with ⟨rfl, rfl⟩ | ⟨b, cap, o, e, s, rest, rfl, h1, h2, h3, h4⟩
  · exact .inl ⟨rfl, .inl rfl⟩
  · exact limbs_part h4 h3 h1
theorem GrIs.own {S0 S : St} {v : AV} {d : List Nat} (h : GrIs S0 S v d) : OwnIs S0 S v d := by
  rcases id h with ⟨rfl, rfl⟩ | ⟨b, rfl, h1, h2, h3⟩
  · exact .inl ⟨rfl, rfl⟩
  · exact .inr ⟨b, d.length, true, true, 1, [], rfl, Nat.le_refl _, h1, h2, by rw [List.append_nil]; exact h3⟩
theorem OwnIs.head {S0 S : St} {v r : AV} {l : List Nat} {n : Nat} (h : OwnIs S0 S v l) (hr : r = v ∧ n = l.length ∨ n < l.length ∧ r = slHead v n) : OwnIs S0 S r (l.take n) := by
  rcases hr with ⟨rfl, rfl⟩ | ⟨hn, rfl⟩
  · rw [List.take_length]; exact h
  · rcases h with ⟨rfl, h⟩ | ⟨b, cap, o, e, s, rest, rfl, h1, h2, h3, h4⟩
    · simp at hn
    · refine .inr ⟨b, cap, o, e, s, l.drop n ++ rest, ?_, by rw [List.length_take]; omega, h2, h3, ?_⟩
      · rw [List.length_take, Nat.min_eq_left (by omega)]; rfl
      · rw [← List.append_assoc, List.take_append_drop]; exact h4
theorem OwnIs.low {S0 S1 S : St} {v : AV} {l : List Nat} (h : OwnIs S1 S v l) (hS : Same S0 S1) : OwnIs S0 S v l := by
  rcases h with h | ⟨b, cap, o, e, s, rest, h1, h2, h3, h4⟩
  · exact .inl h
  · exact .inr ⟨b, cap, o, e, s, rest, h1, h2, Nat.le_trans hS.1 h3, h4⟩
/-- a trimmed number of one's own -/
theorem xtrim_own {S0 S : St} {v : AV} {l : List Nat} (H : Has fns) (h : OwnIs S0 S v l) (hs : Small l) (hlen : l.length < 1000000000000) : wpf fns (.fn 115 [] []) [v] S fun r S' => S' = S ∧ ∃ m, OwnIs S0 S r m ∧ Norm m ∧ val m = val l ∧ m.length ≤ l.length := by
  refine wpf_mono (xtrim_gen H h.limbs hs hlen) ?_
  rintro r S' ⟨h1, n, h2, h3, h4, h5, h6⟩
  exact ⟨h1, l.take n, h.head h6, h3, h4, by rw [List.length_take]; omega⟩

def OwnN (S0 S : St) (v : AV) (n : Nat) : Prop := ∃ l, OwnIs S0 S v l ∧ Norm l ∧ val l = n
theorem OwnN.nat {S0 S : St} {v : AV} {n : Nat} (h : OwnN S0 S v n) : NatIs S v n := by
  obtain ⟨l, h1, h2, h3⟩ := h
  exact ⟨l, h1.limbs, h2, h3⟩

def XMinusI (S : St) (a b : AV) (l m : List Nat) (k : Nat) (A : Act') (S' : St) : Prop :=
  A.inr = false ∧ ∃ (i c : Nat) (d : List Nat) (u : AV), i + k = l.length ∧ d.length = i ∧ c ≤ 1 ∧ tmpV 0 A.F = a ∧ tmpV 1 A.F = b ∧ tmpV 5 A.F = u ∧ tmpV 6 A.F = .int .i64 (c : Int) ∧ tmpV 7 A.F = .int .i64 (i : Int) ∧
    GrIs S S' u d ∧ Same S S' ∧ Small d ∧ val (l.take i) + B ^ i * c = val (m.take i) + val d

/-- a difference; its block is its own -/
theorem xminus_spec {S : St} {a b : AV} {x y : Nat} (H : Has fns) (ha : NatIs S a x) (hb : NatIs S b y) (hx : Fits x) (hyx : y ≤ x) : wpf fns (.fn 116 [] []) [a, b] S fun r S' => OwnN S S' r (x - y) ∧ Same S S' := by
  obtain ⟨l, hla, hl, rfl⟩ := ha
  obtain ⟨m, hmb, hm, rfl⟩ := hb
  have hll := hx.len hl
  have hB : B = 1000000000 := rfl
  have hml : m.length ≤ l.length := by
    rcases Nat.lt_or_ge l.length m.length with h | h
    · have := val_le_of_len hl.1 hm h; omega
    · exact h
  refine wpf_fn H.f116 (by simp) ?_
  simp only [↓stU, stD, reduceEqDiff, ↓reduceIte]
  refine wsr ?_
  simp only [↓stU, stD, reduceEqDiff, ↓reduceIte]
  refine wsr ?_
  simp only [↓stU, stD, reduceEqDiff, ↓reduceIte]
  refine wsr ?_
  simp only [↓stU, stD, reduceEqDiff, ↓reduceIte]
  refine wss ?_
  simp only [↓stU, stD, reduceEqDiff, ↓reduceIte]
  refine wpc_block (wpc_loop (XMinusI S a b l m) ?_ l.length _ _ ⟨rfl, 0, 0, [], .nilsl, by omega, rfl, by omega, by simp only [↓stU, stD, reduceEqDiff, ↓reduceIte], by simp only [↓stU, stD, reduceEqDiff, ↓reduceIte], by simp only [↓stU, stD, reduceEqDiff, ↓reduceIte], by simp only [↓stU, stD, reduceEqDiff, ↓reduceIte], by simp only [↓stU, stD, reduceEqDiff, ↓reduceIte], .inl ⟨rfl, rfl⟩, Same.refl _, Small.nil, by simp [val_nil]⟩)
  rintro k ⟨F, inr⟩ S' ⟨q0, i, c, d, u, hk, hd, hc1, p0, p1, p5, p6, p7, hg, hS, hsd, hinv⟩
  simp only at q0 p0 p1 p5 p6 p7
  subst q0
  have hla' := hla.same hS
  have hmb' := hmb.same hS
  refine wss ?_
  simp only [↓stU, stD, reduceEqDiff, ↓reduceIte, p0, p7, hla.len]
  by_cases hi : i < l.length
  · refine wpc_yes (by simp only [↓stU, stD, reduceEqDiff, ↓reduceIte, decide_eq_true (show (i : Int) < ((l.length : Nat) : Int) by omega)]) (wpc_skip ?_)
    simp only [↓stU, stD, reduceEqDiff, ↓reduceIte]
    have hxi := getD_lt hl.1 i
    have hyi := getD_lt hm.1 i
    have hxd := hla'.ld (i := i) hi
    have hyd := hmb'.ld (i := i)
    rw [List.getD_eq_getElem?_getD] at hxd hyd
    have htl := val_take_get l i
    have htm := val_take_get m i
    have gm := @getD_ge m i
    generalize l[i]?.getD 0 = xi at *
    generalize m[i]?.getD 0 = yi at *
    have w0 : IntKind.i64.wrap (xi : Int) = (xi : Int) := wrap_i64 (by omega) (by omega)
    have w1 : IntKind.i64.wrap ((xi : Int) - (c : Int)) = (xi : Int) - (c : Int) := wrap_i64 (by omega) (by omega)
    refine wpc_seq (wpc_block (wpc_seq (wpc_reg ?_)))
    simp only [↓stU, stD, reduceEqDiff, ↓reduceIte, p0, p1, p5, p6, p7, hla.iaddr hi, hxd, w0, w1]
    refine wpc_seq (wpc_mono (Q := fun o A' S2 => o = .normal ∧ S2 = S' ∧ A'.inr = false ∧ tmpV 0 A'.F = a ∧ tmpV 1 A'.F = b ∧ tmpV 5 A'.F = u ∧ tmpV 8 A'.F = .int .i64 ((xi : Int) - (c : Int) - (yi : Int)) ∧ tmpV 7 A'.F = .int .i64 (i : Int)) (wpc_seq (wpc_reg ?_)) ?_)
    · by_cases h1 : i < m.length
      · have w3 : IntKind.i64.wrap (yi : Int) = (yi : Int) := wrap_i64 (by omega) (by omega)
        have w2 : IntKind.i64.wrap ((xi : Int) - (c : Int) - (yi : Int)) = (xi : Int) - (c : Int) - (yi : Int) := wrap_i64 (by omega) (by omega)
        simp only [↓stU, stD, reduceEqDiff, ↓reduceIte, p0, p1, p5, p7, hmb.len]
        refine wpc_yes (by simp only [↓stU, stD, reduceEqDiff, ↓reduceIte, decide_eq_true (show (i : Int) < ((m.length : Nat) : Int) by omega)]) (wpc_reg ?_)
        simp only [↓stU, stD, reduceEqDiff, ↓reduceIte, p0, p1, p5, p7, hmb.iaddr h1, hyd h1, w2, w3]
      · simp only [↓stU, stD, reduceEqDiff, ↓reduceIte, p0, p1, p5, p7, hmb.len]
        refine wpc_non (by simp only [↓stU, stD, reduceEqDiff, ↓reduceIte, decide_eq_false (show ¬ (i : Int) < ((m.length : Nat) : Int) by omega)]) (wpc_skip ?_)
        have e0 : (xi : Int) - (c : Int) - (yi : Int) = (xi : Int) - (c : Int) := by rw [gm h1]; omega
        simp only [↓stU, stD, reduceEqDiff, ↓reduceIte, p0, p1, p5, p7, e0]
    clear p0 p1 p5 p6 p7
    rintro o ⟨F, inr⟩ S2 ⟨rfl, hS2, q0, p0, p1, p5, p8, p7⟩
    simp only at q0 p0 p1 p5 p8 p7
    subst q0
    rw [hS2]
    simp only [↓stU, stD, reduceEqDiff, ↓reduceIte]
    refine wsr ?_
    simp only [↓stU, stD, reduceEqDiff, ↓reduceIte]
    obtain ⟨w, c', hw, hwB, hc1'⟩ : ∃ w c' : Nat, xi + c' * B = yi + c + w ∧ w < B ∧ c' = if xi < yi + c then 1 else 0 := by
      rw [hB]
      by_cases h : xi < yi + c
      · exact ⟨xi + 1000000000 - (yi + c), 1, by omega, by omega, by rw [if_pos h]⟩
      · exact ⟨xi - (yi + c), 0, by omega, by omega, by rw [if_neg h]⟩
    refine wpc_seq (wpc_mono (Q := fun o A' S2 => o = .normal ∧ S2 = S' ∧ A'.inr = false ∧ tmpV 0 A'.F = a ∧ tmpV 1 A'.F = b ∧ tmpV 5 A'.F = u ∧ tmpV 6 A'.F = .int .i64 (c' : Int) ∧ tmpV 8 A'.F = .int .i64 (w : Int) ∧ tmpV 7 A'.F = .int .i64 (i : Int)) (wpc_seq (wpc_reg ?_)) ?_)
    · rw [hB] at hw
      by_cases h : xi < yi + c
      · rw [if_pos h] at hc1'
        subst hc1'
        simp only [↓stU, stD, reduceEqDiff, ↓reduceIte, p8]
        refine wpc_yes (by simp only [↓stU, stD, reduceEqDiff, ↓reduceIte, decide_eq_true (show (xi : Int) - (c : Int) - (yi : Int) < 0 by omega)]) (wpc_reg ?_)
        have w2 : IntKind.i64.wrap ((xi : Int) - (c : Int) - (yi : Int) + 1000000000) = (w : Int) := by rw [wrap_i64 (by omega) (by omega)]; omega
        simp only [↓stU, stD, reduceEqDiff, ↓reduceIte, p0, p1, p5, p7, p8, w2]
        try simp
      · rw [if_neg h] at hc1'
        subst hc1'
        simp only [↓stU, stD, reduceEqDiff, ↓reduceIte, p8]
        refine wpc_non (by simp only [↓stU, stD, reduceEqDiff, ↓reduceIte, decide_eq_false (show ¬ (xi : Int) - (c : Int) - (yi : Int) < 0 by omega)]) (wpc_skip ?_)
        have w2 : (xi : Int) - (c : Int) - (yi : Int) = (w : Int) := by omega
        simp only [↓stU, stD, reduceEqDiff, ↓reduceIte, p0, p1, p5, p7, p8, w2]
        try simp
    clear p0 p1 p5 p7 p8
    rintro o ⟨F, inr⟩ S2 ⟨rfl, hS2, q0, p0, p1, p5, p6, p8, p7⟩
    simp only at q0 p0 p1 p5 p6 p8 p7
    subst q0
    rw [hS2]
    simp only [↓stU, stD, reduceEqDiff, ↓reduceIte]
    have w3 : IntKind.u32.wrap (w : Int) = (w : Int) := wrap_u32 (by omega) (by omega)
    obtain ⟨v', S2, happ, hg2, hS2⟩ := hg.app (w := w) (bytes := 4) hS (by unfold room; omega) (by unfold room; omega)
    refine wpc_reg ?_
    simp only [↓sU, sD, reduceEqDiff, ↓reduceIte, reduceAdd, p5, p8, w3]
    rw [evA_one (k := .u32) (n := (w : Int)) (by simp only [↓sU, sD, reduceEqDiff, ↓reduceIte, reduceAdd])]
    try simp only [↓sU, sD, reduceEqDiff, ↓reduceIte, reduceAdd]
    refine wpo_x (fun call => by simp only [↓sU, sD, reduceEqDiff, ↓reduceIte, reduceAdd, evX_app, p5]; exact happ) ?_
    try simp only [↓sU, sD, reduceEqDiff, ↓reduceIte, reduceAdd]
    refine wpc_reg ?_
    have w1 : IntKind.i64.wrap ((i : Int) + 1) = ((i + 1 : Nat) : Int) := by rw [wrap_i64 (by omega) (by omega)]; omega
    simp only [↓sU, sD, reduceEqDiff, ↓reduceIte, reduceAdd, p7, w1]
    refine ⟨k - 1, by omega, rfl, i + 1, c', d ++ [w], v', by omega, by simp [hd], by split at hc1' <;> omega, by simp only [↓sU, sD, reduceEqDiff, ↓reduceIte, reduceAdd, p0], by simp only [↓sU, sD, reduceEqDiff, ↓reduceIte, reduceAdd, p1], by simp only [↓sU, sD, reduceEqDiff, ↓reduceIte, reduceAdd], by simp only [↓sU, sD, reduceEqDiff, ↓reduceIte, reduceAdd, p6], by simp only [↓sU, sD, reduceEqDiff, ↓reduceIte, reduceAdd], hg2, hS2, Small.append.2 ⟨hsd, small_one hwB⟩, ?_⟩
    rw [val_snoc, hd, htl, htm, Nat.pow_succ]
    generalize B ^ i = P at *
    have e1 : P * B * c' = P * (c' * B) := by grind
    have e2 : P * xi + P * (c' * B) = P * yi + P * c + P * w := by rw [← Nat.mul_add, hw]; grind
    omega
  · refine wpc_non (by simp only [↓stU, stD, reduceEqDiff, ↓reduceIte, decide_eq_false (show ¬ (i : Int) < ((l.length : Nat) : Int) by omega)]) (wpc_exit ?_)
    simp only [↓stU, stD, reduceEqDiff, ↓reduceIte]
    rw [List.take_of_length_le (by omega), List.take_of_length_le (by omega)] at hinv
    have hvd := val_lt hsd
    have hc : c = 0 := by
      rcases (by omega : c = 0 ∨ c = 1) with h | h
      · exact h
      · rw [h, Nat.mul_one] at hinv; rw [hd] at hvd; omega
    rw [hc, Nat.mul_zero, Nat.add_zero] at hinv
    refine wsr ?_
    simp only [↓stU, stD, reduceEqDiff, ↓reduceIte, p5]
    refine wpo_call ?_
    simp only [↓stU, stD, reduceEqDiff, ↓reduceIte, p5]
    refine wpf_mono (xtrim_own H hg.own hsd (by omega)) ?_
    rintro r S2 ⟨hS2, e, he, hn, hv, _⟩
    rw [hS2]
    try simp only [↓stU, stD, reduceEqDiff, ↓reduceIte]
    refine wpc_ret ?_
    simp only [↓stU, stD, reduceEqDiff, ↓reduceIte]
    exact ⟨⟨e, he, hn, by omega⟩, hS⟩
end Go.Ev.Gl

namespace Go.Ev.Gl
variable {fns : T AFn}

/-! ## The reference's products -/
def XMulO (S : St) (a b : AV) (l m : List Nat) (k : Nat) (A : Act') (S' : St) : Prop :=
  A.inr = false ∧ ∃ (i : Nat) (d : List Nat), i + k = l.length ∧ d.length = i + m.length ∧ tmpV 0 A.F = a ∧ tmpV 1 A.F = b ∧ tmpV 5 A.F = .sl S.nx 0 (l.length + m.length) (l.length + m.length) false ∧ tmpV 6 A.F = .int .i64 (i : Int) ∧
    Same S S' ∧ S.nx < S'.nx ∧ S'.h.get S.nx = some (.cells (cells32 (d ++ List.replicate (l.length - i) 0)) false 0) ∧ Small d ∧ val d = val (l.take i) * val m

def XMulJ (S : St) (a b : AV) (l m O : List Nat) (i x k : Nat) (A : Act') (S' : St) : Prop :=
  A.inr = false ∧ ∃ (j : Nat) (L : List Nat) (c : Nat), j + k = m.length ∧ L.length = l.length + m.length ∧ tmpV 0 A.F = a ∧ tmpV 1 A.F = b ∧ tmpV 5 A.F = .sl S.nx 0 (l.length + m.length) (l.length + m.length) false ∧ tmpV 6 A.F = .int .i64 (i : Int) ∧
    tmpV 7 A.F = .int .u64 (c : Int) ∧ tmpV 8 A.F = .int .i64 (j : Int) ∧ Same S S' ∧ S.nx < S'.nx ∧ S'.h.get S.nx = some (.cells (cells32 L) false 0) ∧ Small L ∧ c < B ∧ L.drop (i + j) = O.drop (i + j) ∧
    val (L.take (i + j)) + c * B ^ (i + j) = val (O.take (i + j)) + B ^ i * x * val (m.take j)

theorem own_ia {b n cap i : Nat} {o : Bool} (hi : i < n) : iaddrV (.slice 1) (.sl b 0 n cap o) i = some (.ptr b i) := by rw [iaddr_own hi]; simp

/-- a product; its block is its own -/
theorem xtimes_spec {S : St} {a b : AV} {x y : Nat} (H : Has fns) (ha : NatIs S a x) (hb : NatIs S b y) (hx : Fits x) (hy : Fits y) : wpf fns (.fn 114 [] []) [a, b] S fun r S' => NatIs S' r (x * y) ∧ Same S S' := by
  obtain ⟨l, ha, hl, rfl⟩ := ha
  obtain ⟨m, hb, hm, rfl⟩ := hb
  have hlen := Fits.len hl hx
  have hlen' := Fits.len hm hy
  have hB : B = 1000000000 := rfl
  have hr1 : l.length + m.length ≤ room := by unfold room; omega
  have hr2 : 4 * (l.length + m.length) ≤ room := by unfold room; omega
  have w0 : IntKind.i64.wrap (((l.length : Nat) : Int) + ((m.length : Nat) : Int)) = ((l.length + m.length : Nat) : Int) := by rw [wrap_i64 (by omega) (by omega)]; omega
  refine wpf_fn H.f114 (by simp) ?_
  simp only [↓stU, stD, reduceEqDiff, ↓reduceIte]
  refine wsr ?_
  simp only [↓stU, stD, reduceEqDiff, ↓reduceIte]
  refine wsr ?_
  simp only [↓stU, stD, reduceEqDiff, ↓reduceIte, ha.len, hb.len, w0]
  refine wpo_al (evA_mk (n := l.length + m.length) (by simp only [↓stU, stD, reduceEqDiff, ↓reduceIte, natOf_cast]) (by simp only [↓stU, stD, reduceEqDiff, ↓reduceIte, natOf_cast]) hr1 hr2) ?_
  intro S1 s1 n1 g1
  simp only [↓stU, stD, reduceEqDiff, ↓reduceIte]
  refine wss ?_
  simp only [↓stU, stD, reduceEqDiff, ↓reduceIte]
  refine wpc_block (wpc_loop (XMulO S a b l m) ?_ l.length _ _ ⟨rfl, 0, List.replicate m.length 0, by simp, by simp, by simp only [↓stU, stD, reduceEqDiff, ↓reduceIte], by simp only [↓stU, stD, reduceEqDiff, ↓reduceIte], by simp only [↓stU, stD, reduceEqDiff, ↓reduceIte], by simp only [↓stU, stD, reduceEqDiff, ↓reduceIte], s1, by omega, ?_, fun z hz => by simp at hz; rw [hz.2]; decide, ?_⟩)
  · rintro k ⟨F, inr⟩ S' ⟨q0, i, d, hk, hd, p0, p1, p5, p6, hS, hnx, hblk, hsd, hinv⟩
    simp only at q0 p0 p1 p5 p6
    subst q0
    have ha' := ha.same hS
    have hb' := hb.same hS
    refine wss ?_
    simp only [↓stU, stD, reduceEqDiff, ↓reduceIte, p0, p6, ha.len]
    by_cases hi : i < l.length
    · refine wpc_yes (by simp only [↓stU, stD, reduceEqDiff, ↓reduceIte, decide_eq_true (show (i : Int) < ((l.length : Nat) : Int) by omega)]) (wpc_skip ?_)
      simp only [↓stU, stD, reduceEqDiff, ↓reduceIte]
      have hx : l[i]?.getD 0 < B := getD_lt hl.1 i
      have etk := val_take_get l i
      refine wpc_seq (wpc_block (wpc_seq (wpc_reg ?_)))
      simp only [↓stU, stD, reduceEqDiff, ↓reduceIte]
      have hOlen : (d ++ List.replicate (l.length - i) 0).length = l.length + m.length := by simp [hd]; omega
      have hOs : Small (d ++ List.replicate (l.length - i) 0) := Small.append.2 ⟨hsd, fun z hz => by simp at hz; rw [hz.2]; decide⟩
      have hOt : (d ++ List.replicate (l.length - i) 0).take (i + m.length) = d := by rw [← hd, List.take_left' rfl]
      have hOd : (d ++ List.replicate (l.length - i) 0).drop (i + m.length) = List.replicate (l.length - i) 0 := by rw [← hd, List.drop_left' rfl]
      generalize d ++ List.replicate (l.length - i) 0 = O at hblk hOlen hOs hOt hOd
      refine wss ?_
      simp only [↓stU, stD, reduceEqDiff, ↓reduceIte]
      refine wpc_mono (Q := fun o A' S'' => o = .normal ∧ XMulJ S a b l m O i (l[i]?.getD 0) 0 A' S'') ?_ ?_
      · refine wpc_block (wpc_loop (XMulJ S a b l m O i (l[i]?.getD 0)) ?_ m.length _ _ ⟨rfl, 0, O, 0, by simp, hOlen, by simp only [↓stU, stD, reduceEqDiff, ↓reduceIte, p0], by simp only [↓stU, stD, reduceEqDiff, ↓reduceIte, p1], by simp only [↓stU, stD, reduceEqDiff, ↓reduceIte, p5], by simp only [↓stU, stD, reduceEqDiff, ↓reduceIte, p6], by simp only [↓stU, stD, reduceEqDiff, ↓reduceIte], by simp only [↓stU, stD, reduceEqDiff, ↓reduceIte], hS, hnx, hblk, hOs, by decide, rfl, by simp [val_nil]⟩)
        clear p0 p1 p5 p6
        rintro k' ⟨F, inr⟩ S' ⟨p00, j, L, c, hjk, hL, p0, p1, p5, p6, p7, p8, hS, hnx, hblk, hLs, hc, hLd, hinv2⟩
        simp only at p00 p0 p1 p5 p6 p7 p8
        subst p00
        have ha' := ha.same hS
        have hb' := hb.same hS
        refine wss ?_
        simp only [↓stU, stD, reduceEqDiff, ↓reduceIte, p1, p8, hb.len]
        by_cases hj : j < m.length
        · refine wpc_yes (by simp only [↓stU, stD, reduceEqDiff, ↓reduceIte, decide_eq_true (show (j : Int) < ((m.length : Nat) : Int) by omega)]) (wpc_skip ?_)
          simp only [↓stU, stD, reduceEqDiff, ↓reduceIte]
          have hxld := ha'.ld hi
          have hyld := hb'.ld hj
          rw [List.getD_eq_getElem?_getD] at hxld hyld
          have hy : m[j]?.getD 0 < B := getD_lt hm.1 j
          have emk := val_take_get m j
          generalize m[j]?.getD 0 = yv at hy hyld emk
          have hp : i + j < L.length := by omega
          have hrld := ld_at hblk hp
          have ho : L[i + j]?.getD 0 < B := getD_lt hLs (i + j)
          have hLO : L[i + j]?.getD 0 = O[i + j]?.getD 0 := by
            have e1 : (L.drop (i + j))[0]? = (O.drop (i + j))[0]? := by rw [hLd]
            simpa using congrArg (·.getD 0) e1
          have eOk := val_take_get O (i + j)
          rw [← hLO] at eOk
          generalize L[i + j]?.getD 0 = ov at ho hrld eOk
          generalize l[i]?.getD 0 = xv at *
          obtain ⟨hc2, hxy⟩ := carry_lt hx hy ho hc
          have w1 : IntKind.u64.wrap (xv : Int) = xv := wrap_u64 (by omega) (by omega)
          have w2 : IntKind.u64.wrap (yv : Int) = yv := wrap_u64 (by omega) (by omega)
          have w3 : IntKind.u64.wrap ((xv : Int) * yv) = ((xv * yv : Nat) : Int) := by rw [wrap_u64 (by rw [← Int.natCast_mul]; omega) (by rw [← Int.natCast_mul]; omega)]; simp
          have w4 : IntKind.u64.wrap (ov : Int) = ov := wrap_u64 (by omega) (by omega)
          have w5 : IntKind.u64.wrap ((c : Int) + (ov : Int)) = ((c + ov : Nat) : Int) := by rw [wrap_u64 (by omega) (by omega)]; omega
          have w6 : IntKind.u64.wrap (((c + ov : Nat) : Int) + ((xv * yv : Nat) : Int)) = ((xv * yv + ov + c : Nat) : Int) := by rw [wrap_u64 (by omega) (by omega)]; omega
          have w7 : IntKind.i64.wrap ((i : Int) + (j : Int)) = ((i + j : Nat) : Int) := by rw [wrap_i64 (by omega) (by omega)]; omega
          have hiad := own_ia (b := S.nx) (n := l.length + m.length) (cap := l.length + m.length) (i := i + j) (o := false) (by omega)
          refine wpc_seq (wpc_block (wpc_seq (wpc_drq ?_)))
          simp only [↓sU, sD, reduceEqDiff, ↓reduceIte, reduceAdd, p0, p1, p5, p6, p7, p8, w7, natOf_cast, hiad, hrld, w4, w5, ha.iaddr hi, hxld, w1, hb.iaddr hj, hyld, w2, w3, w6]
          have htle : xv * yv + ov + c ≤ 18446744073709551615 := by omega
          generalize hteq : xv * yv + ov + c = t at hc2 htle
          have hquo := quoB (.p .int) htle
          have hrem := remB (.p .int) t
          have hdm : t / B * B + t % B = t := by rw [Nat.mul_comm]; exact Nat.div_add_mod t B
          have hmod : t % B < 1000000000 := Nat.mod_lt t B_pos
          generalize t / B = q at hc2 hdm hquo
          generalize t % B = r at hdm hmod hrem
          have w9 : IntKind.u32.wrap (r : Int) = (r : Int) := wrap_u32 (by omega) (by omega)
          have hrB : r < B := hmod
          obtain ⟨U, hT⟩ : ∃ U : St, U = ⟨S'.h, S'.nx + 22⟩ := ⟨_, rfl⟩
          have hST : Same S' U := by rw [hT]; exact Same.nx S' 22
          rw [← hT]
          have hblkT : U.h.get S.nx = some (.cells (cells32 L) false 0) := by rw [hT]; exact hblk
          clear hT
          refine wsr ?_
          have hst := st_at (w := r) hblkT hp
          simp only [↓sU, sD, reduceEqDiff, ↓reduceIte, reduceAdd, p5, p6, p8, w7, natOf_cast, hrem, w9, hiad]
          refine wpo_x (fun call => by simp only [↓sU, sD, reduceEqDiff, ↓reduceIte, reduceAdd, evX_st, cells_int]; exact hst) ?_
          simp only [↓sU, sD, reduceEqDiff, ↓reduceIte, reduceAdd]
          refine wpc_reg ?_
          simp only [↓sU, sD, reduceEqDiff, ↓reduceIte, reduceAdd, hquo]
          refine wpc_reg ?_
          have w10 : IntKind.i64.wrap ((j : Int) + 1) = ((j + 1 : Nat) : Int) := by rw [wrap_i64 (by omega) (by omega)]; omega
          simp only [↓sU, sD, reduceEqDiff, ↓reduceIte, reduceAdd, p8, w10]
          have hLset : ∀ q, i + j < q → (L.set (i + j) r).drop q = L.drop q := fun q hq => by rw [List.drop_set]; simp [show ¬ q ≤ i + j by omega]
          have hLtk : (L.set (i + j) r).take (i + j) = L.take (i + j) := by rw [List.take_set, List.set_eq_of_length_le (by simp; omega)]
          refine ⟨k' - 1, by omega, rfl, j + 1, L.set (i + j) r, q, by omega, by simp [hL], by simp only [↓sU, sD, reduceEqDiff, ↓reduceIte, reduceAdd, p0], by simp only [↓sU, sD, reduceEqDiff, ↓reduceIte, reduceAdd, p1], by simp only [↓sU, sD, reduceEqDiff, ↓reduceIte, reduceAdd, p5], by simp only [↓sU, sD, reduceEqDiff, ↓reduceIte, reduceAdd, p6], by simp only [↓sU, sD, reduceEqDiff, ↓reduceIte, reduceAdd], by simp only [↓sU, sD, reduceEqDiff, ↓reduceIte, reduceAdd], (hS.trans hST).put (Nat.le_refl _) _, Nat.lt_of_lt_of_le hnx hST.1, ?_, ?_, hc2, ?_, ?_⟩
          · simp only
            rw [T.get_set, if_pos rfl]
          · intro z hz
            rcases List.mem_or_eq_of_mem_set hz with h | h
            · exact hLs z h
            · rw [h]; exact hrB
          · rw [← Nat.add_assoc, hLset _ (by omega), ← List.drop_drop, hLd, List.drop_drop]
          · have e1 : val ((L.set (i + j) r).take (i + j + 1)) = val (L.take (i + j)) + B ^ (i + j) * r := by
              rw [val_take_pad, hLtk]
              simp [hp]
            rw [← Nat.add_assoc, e1, eOk, emk, Nat.pow_succ]
            exact mul_step hinv2 (Nat.pow_add B i j) (by rw [hteq]; omega)
        · refine wpc_non (by simp only [↓stU, stD, reduceEqDiff, ↓reduceIte, decide_eq_false (show ¬ (j : Int) < ((m.length : Nat) : Int) by omega)]) (wpc_exit ?_)
          simp only [↓stU, stD, reduceEqDiff, ↓reduceIte]
          exact ⟨rfl, j, L, c, by omega, hL, by simp only [↓stU, stD, reduceEqDiff, ↓reduceIte, p0], by simp only [↓stU, stD, reduceEqDiff, ↓reduceIte, p1], by simp only [↓stU, stD, reduceEqDiff, ↓reduceIte, p5], by simp only [↓stU, stD, reduceEqDiff, ↓reduceIte, p6], by simp only [↓stU, stD, reduceEqDiff, ↓reduceIte, p7], by simp only [↓stU, stD, reduceEqDiff, ↓reduceIte, p8], hS, hnx, hblk, hLs, hc, hLd, hinv2⟩
      clear p0 p1 p5 p6
      rintro o ⟨F2, inr2⟩ S'' ⟨rfl, p00, j, L, c, hjk, hL, p0, p1, p5, p6, p7, p8, hS, hnx, hblk, hLs, hc, hLd, hinv2⟩
      simp only at p00 p0 p1 p5 p6 p7 p8
      subst p00
      have hj : j = m.length := by omega
      subst hj
      simp only [↓stU, stD, reduceEqDiff, ↓reduceIte]
      have hp : i + m.length < L.length := by omega
      have w1 : IntKind.u32.wrap (c : Int) = (c : Int) := wrap_u32 (by omega) (by omega)
      have hiad := own_ia (b := S.nx) (n := l.length + m.length) (cap := l.length + m.length) (i := i + m.length) (o := false) (by omega)
      have hst := st_at (w := c) hblk hp
      have w7 : IntKind.i64.wrap ((i : Int) + ((m.length : Nat) : Int)) = ((i + m.length : Nat) : Int) := by rw [wrap_i64 (by omega) (by omega)]; omega
      have w10 : IntKind.i64.wrap ((i : Int) + 1) = ((i + 1 : Nat) : Int) := by rw [wrap_i64 (by omega) (by omega)]; omega
      have hLl : (L.take (i + m.length)).length = i + m.length := by simp; omega
      have hLsplit : L.set (i + m.length) c = L.take (i + m.length) ++ [c] ++ List.replicate (l.length - (i + 1)) 0 := by
        have e1 : L = L.take (i + m.length) ++ List.replicate (l.length - i) 0 := by rw [← hOd, ← hLd, List.take_append_drop]
        have e2 : l.length - i = l.length + m.length - (L.take (i + m.length)).length := by rw [hLl]; omega
        have e3 : l.length - (i + 1) = l.length + m.length - ((L.take (i + m.length)).length + 1) := by rw [hLl]; omega
        have e4 := set_zeros (d := L.take (i + m.length)) (n := l.length + m.length) (x := c) (by rw [hLl]; omega)
        rw [← e2, ← e3, ← e1, hLl] at e4
        exact e4
      rw [hLsplit] at hst
      refine wpc_reg ?_
      simp only [↓sU, sD, reduceEqDiff, ↓reduceIte, reduceAdd, p1, p5, p6, p7, hb.len, w7, natOf_cast, w1, hiad]
      refine wpo_x (fun call => by simp only [↓sU, sD, reduceEqDiff, ↓reduceIte, reduceAdd, evX_st, cells_int]; exact hst) ?_
      simp only [↓sU, sD, reduceEqDiff, ↓reduceIte, reduceAdd]
      refine wpc_reg ?_
      simp only [↓sU, sD, reduceEqDiff, ↓reduceIte, reduceAdd, p6, w10]
      refine ⟨k - 1, by omega, rfl, i + 1, L.take (i + m.length) ++ [c], by omega, by rw [List.length_append, hLl]; simp; omega, by simp only [↓sU, sD, reduceEqDiff, ↓reduceIte, reduceAdd, p0], by simp only [↓sU, sD, reduceEqDiff, ↓reduceIte, reduceAdd, p1], by simp only [↓sU, sD, reduceEqDiff, ↓reduceIte, reduceAdd, p5], by simp only [↓sU, sD, reduceEqDiff, ↓reduceIte, reduceAdd], hS.put (Nat.le_refl _) _, hnx, ?_, ?_, ?_⟩
      · simp only
        rw [T.get_set, if_pos rfl]
      · exact Small.append.2 ⟨hLs.take _, fun z hz => by simp at hz; rw [hz]; exact hc⟩
      · rw [val_snoc, hLl, etk]
        rw [hOt, hinv, List.take_length] at hinv2
        rw [Nat.add_mul, Nat.mul_comm (B ^ (i + m.length)) c, hinv2]
    · refine wpc_non (by simp only [↓stU, stD, reduceEqDiff, ↓reduceIte, decide_eq_false (show ¬ (i : Int) < ((l.length : Nat) : Int) by omega)]) (wpc_exit ?_)
      simp only [↓stU, stD, reduceEqDiff, ↓reduceIte]
      have hi : i = l.length := by omega
      rw [hi, List.take_length] at hinv
      rw [hi, Nat.sub_self, List.replicate_zero, List.append_nil] at hblk
      have hout := limbs_own (n := l.length + m.length) (o' := false) (cap := l.length + m.length) hblk hnx (by rw [hd, hi]) (Nat.le_refl _)
      refine wsr ?_
      simp only [↓stU, stD, reduceEqDiff, ↓reduceIte, p5]
      refine wpo_call ?_
      simp only [↓stU, stD, reduceEqDiff, ↓reduceIte, p5]
      refine wpf_mono (xtrim_spec H hout hsd (by omega)) ?_
      rintro v S1 ⟨hN, hS1⟩
      rw [hS1]
      try simp only [↓stU, stD, reduceEqDiff, ↓reduceIte]
      refine wpc_ret ?_
      simp only [↓stU, stD, reduceEqDiff, ↓reduceIte]
      exact ⟨by rw [← hinv]; exact hN, hS⟩
  · rw [g1, cells32_zeros, List.replicate_append_replicate, Nat.sub_zero, Nat.add_comm]
  · simp [val_nil]
    exact val_zeros fun z hz => by simp at hz; exact hz.2
end Go.Ev.Gl

namespace Go.Ev.Gl
variable {fns : T AFn}

/-! ## Appending lists -/
theorem src_of {S : St} {v : AV} {l : List Nat} (h : LimbIs S v l) : lenOfV v = some l.length ∧ srcCells v S.h 1 l.length = some (cells32 l) := by
  rcases h with ⟨h0, h⟩ | ⟨b, off, cap, o, cs, rfl, hc, hb, hcs, hel⟩
  · simp at h0
    subst h0
    rcases h with rfl | rfl <;> exact ⟨rfl, rfl⟩
  · refine ⟨by show some (l.map Int.ofNat).length = _; rw [List.length_map], ?_⟩
    show (osel (cellsAt S.h b) fun cs => cut cs off (l.length * 1)) = _
    rw [hcs, osel_some]
    have hall : ∀ i, i < l.length → cs[off + i]? = some (.int .u32 ((l[i]?.getD 0 : Nat) : Int)) := fun i hi => by
      refine hel i _ ?_
      simp [hi]
    unfold cut
    rw [takeL_eq, dropL_eq, Nat.mul_one]
    have hlen : l.length = 0 ∨ off + l.length ≤ cs.length := by
      rcases Nat.eq_zero_or_pos l.length with h | hp
      · exact .inl h
      · have := hall (l.length - 1) (by omega)
        have := (List.getElem?_eq_some_iff.1 this).1
        omega
    rw [if_pos (by simp; omega)]
    congr 1
    apply List.ext_getElem?
    intro i
    rw [List.getElem?_take]
    split
    · rename_i hi
      rw [List.getElem?_drop, hall i hi]
      simp [cells32, hi]
    · rename_i hi
      symm
      rw [List.getElem?_eq_none (by rw [cells32_length]; omega)]
theorem beq_false {a b : Nat} (h : a ≠ b) : Nat.beq a b = false := by rw [Bool.eq_false_iff]; intro e; rw [Nat.beq_eq] at e; exact h e
theorem app_nilG {S : St} {v : AV} {l : List Nat} {bytes : Nat} (h : LimbIs S v l) (h1 : l.length ≤ room) (h2 : l.length * bytes ≤ room) :
    ∃ r S', appendV bytes 1 .nilsl v S = some (r, S') ∧ GrIs S S' r l ∧ Same S S' := by
  obtain ⟨e1, e2⟩ := src_of h
  unfold appendV
  rw [e1, osel_some, e2, osel_some]
  show ∃ r S', appNil bytes 1 l.length (cells32 l) S = some (r, S') ∧ _
  unfold appNil
  rcases Nat.eq_zero_or_pos l.length with h0 | hp
  · rw [h0]
    have : l = [] := List.length_eq_zero_iff.1 h0
    subst this
    exact ⟨.nilsl, S, rfl, .inl ⟨rfl, rfl⟩, Same.refl S⟩
  · rw [beq_false (show l.length ≠ 0 by omega), bsel_false, Nat.ble_eq_true_of_le h1, bsel_true, Nat.ble_eq_true_of_le h2, bsel_true]
    refine ⟨_, _, rfl, .inr ⟨S.nx, rfl, Nat.le_refl _, by simp, ?_⟩, Same.alloc S _⟩
    simp only
    rw [T.get_set, if_pos rfl]
/-- a full slice of one's own, a list behind it -/
theorem app_full {S : St} {b : Nat} {v : AV} {l m : List Nat} {bytes : Nat} (hb : S.h.get b = some (.cells (cells32 l) false 0)) (hbl : b < S.nx) (h : LimbIs S v m) (h1 : l.length + m.length ≤ room) (h2 : (l.length + m.length) * bytes ≤ room) :
    ∃ r S', appendV bytes 1 (.sl b 0 l.length l.length false) v S = some (r, S') ∧ LimbIs S' r (l ++ m) ∧ Same S S' := by
  obtain ⟨e1, e2⟩ := src_of h
  unfold appendV
  rw [e1, osel_some, e2, osel_some]
  show ∃ r S', appSl bytes 1 b 0 l.length l.length false m.length (cells32 m) S = some (r, S') ∧ _
  unfold appSl
  rcases Nat.eq_zero_or_pos m.length with h0 | hp
  · have : m = [] := List.length_eq_zero_iff.1 h0
    subst this
    rw [Nat.ble_eq_true_of_le (by simp), bsel_true]
    refine ⟨.sl b 0 l.length l.length false, S, rfl, ?_, Same.refl S⟩
    rw [List.append_nil]
    exact limbs_own hb hbl rfl (Nat.le_refl _)
  · have e3 : Nat.ble (l.length + m.length) l.length = false := by
      rw [Bool.eq_false_iff]; intro e; have := Nat.le_of_ble_eq_true e; omega
    rw [e3, bsel_false, Nat.ble_eq_true_of_le h1, bsel_true, Nat.ble_eq_true_of_le h2, bsel_true, hb, osel_some]
    have e4 : cut (cells32 l) 0 (l.length * 1) = some (cells32 l) := by
      unfold cut
      rw [takeL_eq, dropL_eq, List.drop_zero, Nat.mul_one, if_pos (by rw [cells32_length]; omega), List.take_of_length_le (by rw [cells32_length]; omega)]
    show ∃ r S', (osel (cut (cells32 l) 0 (l.length * 1)) fun old => bsel false _ (grown S.h S.nx (l.length + m.length) 1 (appL old (cells32 m)))) = some (r, S') ∧ _
    rw [e4, osel_some, bsel_false, appL_eq]
    refine ⟨_, _, rfl, ?_, Same.alloc S _⟩
    refine limbs_own (o := true) (sz := 1) ?_ (by simp) (by simp) (Nat.le_refl _)
    simp only
    rw [T.get_set, if_pos rfl]
    simp [cells32]
/-- a slice's tail -/
theorem LimbIs.tail {S : St} {v : AV} {l : List Nat} (h : LimbIs S v l) {i : Nat} (hi : i ≤ l.length) {F : Fr} {x : Opd} (hx : natOf (x.val F) = some i) : ∃ u, slcV (.slice 1) v (some x) none none F = some u ∧ LimbIs S u (l.drop i) := by
  rcases h with ⟨h0, h⟩ | ⟨b, off, cap, o, cs, rfl, hc, hb, hcs, hel⟩
  · simp at h0
    subst h0
    have hi0 : i = 0 := by simpa using hi
    subst hi0
    rcases h with rfl | rfl
    · refine ⟨.nilsl, ?_, .inl ⟨rfl, .inl rfl⟩⟩
      simp only [slcV, slNil, bounds, optNat, osel_some, hx]; rfl
    · refine ⟨.emp, ?_, .inl ⟨rfl, .inr rfl⟩⟩
      simp only [slcV, slEmp, bounds, optNat, osel_some, hx]; rfl
  · rw [List.length_map] at hc
    have e1 : Nat.ble cap cap = true := Nat.ble_eq_true_of_le (Nat.le_refl _)
    have e2 : Nat.ble l.length cap = true := Nat.ble_eq_true_of_le hc
    have e3 : Nat.ble i l.length = true := Nat.ble_eq_true_of_le hi
    simp only [slcV, slSl, bounds, optNat, osel_some, hx, List.length_map, e1, e2, e3, bsel_true, Option.isNone_none]
    rcases Nat.lt_or_ge i cap with hlt | hge
    · rw [beq_false (show cap ≠ i by omega), bsel_false]
      refine ⟨_, rfl, .inr ⟨b, off + i * 1, cap - i, bsel o true false, cs, ?_, ?_, hb, hcs, ?_⟩⟩
      · rw [List.length_map, List.length_drop]
      · rw [List.length_map, List.length_drop]; omega
      · intro j y hj
        rw [List.map_drop, List.getElem?_drop] at hj
        have := hel (i + j) y hj
        rw [show off + i * 1 + j = off + (i + j) by omega]
        exact this
    · have hil : i = l.length := by omega
      have hic : cap = i := by omega
      rw [show Nat.beq cap i = true by rw [Nat.beq_eq]; exact hic, bsel_true, List.drop_of_length_le (by omega)]
      cases o with
      | true => exact ⟨.emp, rfl, .inl ⟨rfl, .inr rfl⟩⟩
      | false => exact ⟨_, rfl, .inr ⟨b, off, cap - i, false, cs, by rw [List.map_nil, List.length_nil, show l.length - i = 0 by omega], by simp, hb, hcs, fun j y hj => by simp at hj⟩⟩
noncomputable def slTail (v : AV) (i : Nat) : AV :=
  match v with
  | .sl b off len cap o => bsel (Nat.beq cap i) (bsel (bsel o true false) .emp (.sl b off (len - i) (cap - i) false)) (.sl b (off + i * 1) (len - i) (cap - i) (bsel o true false))
  | v => v
theorem LimbIs.tailE {S : St} {v : AV} {l : List Nat} (h : LimbIs S v l) {i : Nat} (hi : i ≤ l.length) {F : Fr} {x : Opd} (hx : natOf (x.val F) = some i) : slcV (.slice 1) v (some x) none none F = some (slTail v i) := by
  rcases h with ⟨h0, h⟩ | ⟨b, off, cap, o, cs, rfl, hc, hb, hcs, hel⟩
  · simp at h0
    subst h0
    have hi0 : i = 0 := by simpa using hi
    subst hi0
    rcases h with rfl | rfl
    · simp only [slcV, slNil, bounds, optNat, osel_some, hx]; rfl
    · simp only [slcV, slEmp, bounds, optNat, osel_some, hx]; rfl
  · rw [List.length_map] at hc
    have e1 : Nat.ble cap cap = true := Nat.ble_eq_true_of_le (Nat.le_refl _)
    have e2 : Nat.ble l.length cap = true := Nat.ble_eq_true_of_le hc
    have e3 : Nat.ble i l.length = true := Nat.ble_eq_true_of_le hi
    simp only [slcV, slSl, bounds, optNat, osel_some, hx, List.length_map, e1, e2, e3, bsel_true, Option.isNone_none, slTail]
    cases Nat.beq cap i <;> cases o <;> rfl
theorem LimbIs.tailL {S : St} {v : AV} {l : List Nat} (h : LimbIs S v l) {i : Nat} (hi : i ≤ l.length) : LimbIs S (slTail v i) (l.drop i) := by
  obtain ⟨u, h1, h2⟩ := h.tail hi (F := .e) (x := .c (.int .i64 (i : Int))) rfl
  rw [h.tailE hi (F := .e) (x := .c (.int .i64 (i : Int))) rfl] at h1
  cases h1
  exact h2
end Go.Ev.Gl

namespace Go.Ev.Gl
variable {fns : T AFn}

/-! ## The reference's long division -/
theorem minmax_u64 (a b : Nat) : minmaxL false [.int .u64 (a : Int), .int .u64 (b : Int)] = some (.int .u64 ((min a b : Nat) : Int)) := by
  show minmaxV false [.int .u64 (b : Int)] (.int .u64 (a : Int)) = _
  show bsel true (minmaxV false [] (.int .u64 (bsel false _ (bsel (Nat.ble a b) (a : Int) (b : Int))))) none = _
  rw [bsel_true, bsel_false]
  show some (AV.int .u64 (bsel (Nat.ble a b) (a : Int) (b : Int))) = _
  rcases Nat.lt_or_ge b a with h | h
  rotate_left
  · rw [Nat.ble_eq_true_of_le h, bsel_true, Nat.min_eq_left h]
  · have : Nat.ble a b = false := by rw [Bool.eq_false_iff]; intro e; have := Nat.le_of_ble_eq_true e; omega
    rw [this, bsel_false, Nat.min_eq_right (by omega)]
theorem evQ_minmax (b : Bool) (l : List Opd) (F : Fr) (h : T AB) : evQ (.minmax b l) F h = minmaxL b (valsOf l F) := rfl

theorem digit_le {R V top P lead t : Nat} (ht : t * V ≤ R) (hV : top * P ≤ V) (hR : R < (lead + 1) * P) (hP : 0 < P) (htop : 0 < top) : t ≤ lead / top := by
  rw [Nat.le_div_iff_mul_le htop]
  have h1 : t * top * P ≤ t * V := by rw [Nat.mul_assoc]; exact Nat.mul_le_mul_left _ hV
  have h2 : t * top * P < (lead + 1) * P := by omega
  have := Nat.lt_of_mul_lt_mul_right h2
  omega
theorem OwnIs.but {S0 S S' : St} {v : AV} {l : List Nat} {b : Nat} (h : OwnIs S0 S v l) (hs : SameBut b S S') (hb : b < S0.nx) : OwnIs S0 S' v l := by
  rcases h with h | ⟨c, cap, o, e, s, rest, h1, h2, h3, h4, h5⟩
  · exact .inl h
  · exact .inr ⟨c, cap, o, e, s, rest, h1, h2, h3, Nat.lt_of_lt_of_le h4 hs.1, by rw [hs.2 c h4 (by omega)]; exact h5⟩
theorem OwnN.but {S0 S S' : St} {v : AV} {n b : Nat} (h : OwnN S0 S v n) (hs : SameBut b S S') (hb : b < S0.nx) : OwnN S0 S' v n := by
  obtain ⟨l, h1, h2⟩ := h
  exact ⟨l, h1.but hs hb, h2⟩
theorem OwnN.low {S0 S1 S : St} {v : AV} {n : Nat} (h : OwnN S1 S v n) (hS : Same S0 S1) : OwnN S0 S v n := by
  obtain ⟨l, h1, h2⟩ := h
  exact ⟨l, h1.low hS, h2⟩

/-- the divisor's first limb enlarged -/
theorem factor_len {m : List Nat} {t f : Nat} (hm : Small (m ++ [t])) (hf : f * (t + 1) ≤ B) (hf0 : 0 < f) : val (m ++ [t]) * f < B ^ (m.length + 1) := by
  have h1 := val_lt (Small.append.1 hm).1
  have h2 : val (m ++ [t]) < B ^ m.length * (t + 1) := by rw [val_snoc, Nat.mul_add, Nat.mul_one]; omega
  calc val (m ++ [t]) * f < B ^ m.length * (t + 1) * f := Nat.mul_lt_mul_of_pos_right h2 hf0
    _ = B ^ m.length * (f * (t + 1)) := by rw [Nat.mul_assoc, Nat.mul_comm (t + 1)]
    _ ≤ B ^ m.length * B := Nat.mul_le_mul_left _ hf
    _ = B ^ (m.length + 1) := by rw [Nat.pow_succ]

def XDivI (S0 S1 : St) (bq : Nat) (av bv fv : AV) (u v : List Nat) (top : Nat) (k : Nat) (A : Act') (S' : St) : Prop :=
  A.inr = false ∧ ∃ (rv : AV) (R : Nat) (qs : List Nat), k ≤ u.length - v.length + 1 ∧ qs.length + k = u.length - v.length + 1 ∧ Small qs ∧
    tmpV 0 A.F = av ∧ tmpV 1 A.F = bv ∧ tmpV 4 A.F = .sl bq 0 (u.length - v.length + 1) (u.length - v.length + 1) false ∧ tmpV 5 A.F = rv ∧ tmpV 6 A.F = fv ∧ tmpV 7 A.F = .int .u64 (top : Int) ∧ tmpV 8 A.F = .int .i64 ((v.length : Nat) : Int) ∧ tmpV 9 A.F = .int .i64 ((k : Int) - 1) ∧
    Same S0 S' ∧ S1.nx ≤ S'.nx ∧ S'.h.get bq = some (.cells (cells32 (List.replicate k 0 ++ qs)) false 0) ∧ NatIs S' rv R ∧ R < val v ∧ val (u.drop k) = val qs * val v + R ∧ (k = u.length - v.length + 1 ∨ OwnN S1 S' rv R)

def XLeadI (S : St) (rl : List Nat) (n : Nat) (F0 : Fr) (k : Nat) (A : Act') (S' : St) : Prop :=
  A.inr = false ∧ S' = S ∧ ∃ j, j ≤ rl.length ∧ k = j - (n - 1) ∧ (j = rl.length ∨ n - 1 ≤ j) ∧ (∀ i, i < 10 → tmpV i A.F = tmpV i F0) ∧ tmpV 10 A.F = .int .u64 ((val (rl.drop j) : Nat) : Int) ∧ tmpV 11 A.F = .int .i64 ((j : Int) - 1)

def XGuessI (S : St) (V R : Nat) (F0 : Fr) (k : Nat) (A : Act') (S' : St) : Prop :=
  A.inr = false ∧ Same S S' ∧ (∀ i, i < 10 → tmpV i A.F = tmpV i F0) ∧ R / V + k ≤ 999999999 ∧ tmpV 12 A.F = .int .u64 ((R / V + k : Nat) : Int)

def XRestI (S0 S1 : St) (b cap : Nat) (o e : Bool) (s : Nat) (rest rl : List Nat) (f : Nat) (F0 : Fr) (k : Nat) (A : Act') (S' : St) : Prop :=
  A.inr = false ∧ ∃ (ds : List Nat) (r : Nat), k ≤ rl.length ∧ ds.length + k = rl.length ∧ Small ds ∧ r < f ∧ (∀ i, i < 10 → tmpV i A.F = tmpV i F0) ∧ tmpV 13 A.F = .int .u64 (r : Int) ∧ tmpV 14 A.F = .int .i64 ((k : Int) - 1) ∧
    SameBut b S0 S' ∧ S'.h.get b = some (.cells (cells32 (rl.take k ++ ds ++ rest)) e s) ∧ val (rl.drop k) = val ds * f + r

/-- the code of the loop of leading limbs -/
noncomputable def xleadC : AC :=
(.block 2 (.loop (.seq (.seq (.reg [⟨(some 80),(.q (.mv (.t 11))),none,0⟩,
⟨(some 81),(.q (.mv (.t 1))),none,0⟩,
⟨(some 82),(.q (.lenSl (.t 81))),none,0⟩,
⟨(some 83),(.q (.bin .sub (.p .int) (.t 82) (.c (.int .i64 (.ofNat 1))))),none,0⟩,
⟨(some 84),(.q (.bin .geq (.p .int) (.t 80) (.t 83))),none,0⟩])
(.cond (.t 84) .skip (.exit 2)))
(.seq (.block 3 (.reg [⟨(some 87),(.q (.mv (.t 10))),none,0⟩,
⟨(some 88),(.q (.bin .mul (.p .int) (.t 87) (.c (.int .u64 (.ofNat 1000000000))))),none,0⟩,
⟨(some 89),(.q (.mv (.t 5))),none,0⟩,
⟨(some 90),(.q (.mv (.t 11))),none,0⟩,
⟨(some 91),(.q (.iaddr (.slice 1) (.t 89) (.t 90))),none,0⟩,
⟨(some 92),(.q (.ld false 1 (.t 91))),none,0⟩,
⟨(some 93),(.q (.conv (.int .u64) (.t 92))),none,0⟩,
⟨(some 94),(.q (.bin .add (.p .int) (.t 88) (.t 93))),none,0⟩,
⟨(some 10),(.q (.mv (.t 94))),none,0⟩]))
(.reg [⟨(some 85),(.q (.mv (.t 11))),none,0⟩,
⟨(some 86),(.q (.bin .sub (.p .int) (.t 85) (.c (.int .i64 (.ofNat 1))))),none,0⟩,
⟨(some 11),(.q (.mv (.t 86))),none,0⟩])))))
/-- the leading limbs -/
theorem xlead {S : St} {rv bv : AV} {rl v : List Nat} {F0 F : Fr} {Q : Out → Act' → St → Prop} {c : AC} (hr : LimbIs S rv rl) (hb : LimbIs S bv v) (hs : Small rl) (hv0 : 0 < v.length) (hlen : rl.length ≤ v.length + 1) (hv : v.length ≤ 100000) (p1 : tmpV 1 F0 = bv) (p5 : tmpV 5 F0 = rv)
    (hF : ∀ i, i < 10 → tmpV i F = tmpV i F0) (p10 : tmpV 10 F = .int .u64 0) (p11 : tmpV 11 F = .int .i64 ((rl.length : Int) - 1))
    (hc : c = xleadC) (hQ : ∀ F', (∀ i, i < 10 → tmpV i F' = tmpV i F0) → tmpV 10 F' = .int .u64 ((val (rl.drop (v.length - 1)) : Nat) : Int) → Q .normal ⟨F', false⟩ S) : wpc fns c ⟨F, false⟩ S Q := by
  have hB : B = 1000000000 := rfl
  subst hc
  refine wpc_block (wpc_loop (XLeadI S rl v.length F0) ?_ _ _ _ ⟨rfl, rfl, rl.length, Nat.le_refl _, rfl, .inl rfl, hF, by rw [List.drop_length]; exact p10, p11⟩)
  rintro k ⟨F, inr⟩ S' ⟨q0, hS', j, hj, hk, hor, hF, p10, p11⟩
  simp only at q0 hF p10 p11
  subst q0
  rw [hS']
  have e1 := (hF 1 (by omega)).trans p1
  have e5 := (hF 5 (by omega)).trans p5
  have w0 : IntKind.i64.wrap (((v.length : Nat) : Int) - 1) = ((v.length - 1 : Nat) : Int) := by rw [wrap_i64 (by omega) (by omega)]; omega
  refine wss ?_
  simp only [↓stU, stD, reduceEqDiff, ↓reduceIte, e1, p11, hb.len, w0]
  by_cases hge : v.length ≤ j
  · refine wpc_yes (by simp only [↓stU, stD, reduceEqDiff, ↓reduceIte, decide_eq_true (show ((v.length - 1 : Nat) : Int) ≤ (j : Int) - 1 by omega)]) (wpc_skip ?_)
    simp only [↓stU, stD, reduceEqDiff, ↓reduceIte]
    obtain ⟨i, rfl⟩ : ∃ i, j = i + 1 := ⟨j - 1, by omega⟩
    have hi : i < rl.length := by omega
    have hld := hr.ld hi
    rw [List.getD_eq_getElem?_getD] at hld
    have hlt := getD_lt hs i
    have hvd := val_drop hi
    generalize rl[i]?.getD 0 = x at *
    have hd1 : val (rl.drop (i + 1)) < 1000000000 := by
      have h1 : Small (rl.drop (i + 1)) := fun z hz => hs z (List.mem_of_mem_drop hz)
      have h2 := val_lt h1
      have h3 : (rl.drop (i + 1)).length ≤ 1 := by rw [List.length_drop]; omega
      have h4 := lt_pow_up h2 h3
      rw [Nat.pow_one] at h4
      exact h4
    rw [hB] at hvd
    generalize val (rl.drop (i + 1)) = y at *
    have w1 : IntKind.u64.wrap ((y : Int) * 1000000000) = ((1000000000 * y : Nat) : Int) := by rw [wrap_u64 (by omega) (by omega)]; omega
    have w2 : IntKind.u64.wrap (x : Int) = (x : Int) := wrap_u64 (by omega) (by omega)
    have w3 : IntKind.u64.wrap (((1000000000 * y : Nat) : Int) + (x : Int)) = ((x + 1000000000 * y : Nat) : Int) := by rw [wrap_u64 (by omega) (by omega)]; omega
    have w4 : ((i + 1 : Nat) : Int) - 1 = (i : Int) := by omega
    have w5 : IntKind.i64.wrap ((i : Int) - 1) = (i : Int) - 1 := wrap_i64 (by omega) (by omega)
    rw [w4] at p11
    refine wpc_seq (wpc_block (wpc_reg ?_))
    simp only [↓stU, stD, reduceEqDiff, ↓reduceIte, e5, p10, p11, w1, w2, w3, natOf_cast, hr.iaddr hi, hld]
    refine wpc_reg ?_
    simp only [↓stU, stD, reduceEqDiff, ↓reduceIte, p11, w5]
    refine ⟨_, ?_, rfl, rfl, i, by omega, rfl, .inr (by omega), ?_, by simp only [↓stU, stD, reduceEqDiff, ↓reduceIte, hvd], by simp only [↓stU, stD, reduceEqDiff, ↓reduceIte]⟩
    · omega
    · intro z hz
      simp only [tmpV_putF, show ∀ d, 10 ≤ d → (z = d) = False from fun d hd => by simp; omega, Nat.reduceLeDiff, if_false]
      exact hF z hz
  · refine wpc_non (by simp only [↓stU, stD, reduceEqDiff, ↓reduceIte, decide_eq_false (show ¬ ((v.length - 1 : Nat) : Int) ≤ (j : Int) - 1 by omega)]) (wpc_exit ?_)
    simp only [↓stU, stD, reduceEqDiff, ↓reduceIte]
    refine hQ _ ?_ ?_
    · intro z hz
      simp only [tmpV_putF, show ∀ d, 10 ≤ d → (z = d) = False from fun d hd => by simp; omega, Nat.reduceLeDiff, if_false]
      exact hF z hz
    · simp only [↓stU, stD, reduceEqDiff, ↓reduceIte, p10]
      rcases hor with h | h
      · rw [h, List.drop_length, List.drop_of_length_le (by omega)]
      · rw [show j = v.length - 1 by omega]
end Go.Ev.Gl

namespace Go.Ev.Gl
variable {fns : T AFn}

/-- the code of the loop that lowers a digit -/
noncomputable def xguessC : AC :=
(.block 4 (.loop (.seq (.seq (.reg [⟨(some 99),(.q (.mv (.t 1))),none,0⟩,
⟨(some 100),(.q (.mv (.t 12))),none,0⟩,
⟨(some 101),(.q (.conv (.int .u32) (.t 100))),none,0⟩,
⟨(some 102),(.x (.call (.c (.fn 113 [] [])) [(.t 101)])),none,0⟩,
⟨(some 103),(.x (.call (.c (.fn 114 [] [])) [(.t 99),(.t 102)])),none,0⟩,
⟨(some 104),(.q (.mv (.t 5))),none,0⟩,
⟨(some 105),(.x (.call (.c (.fn 112 [] [])) [(.t 103),(.t 104)])),none,0⟩,
⟨(some 106),(.q (.bin .gtr (.p .int) (.t 105) (.c (.int .i64 (.ofNat 0))))),none,0⟩])
(.cond (.t 106) .skip (.exit 4)))
(.block 5 (.reg [⟨(some 107),(.q (.mv (.t 12))),none,0⟩,
⟨(some 108),(.q (.bin .sub (.p .int) (.t 107) (.c (.int .u64 (.ofNat 1))))),none,0⟩,
⟨(some 12),(.q (.mv (.t 108))),none,0⟩])))))
theorem cmpI_gt {x y : Nat} : decide (0 < cmpI x y) = decide (y < x) := by
  unfold cmpI
  split
  · rw [decide_eq_false (by omega), decide_eq_false (by omega)]
  · split
    · rw [decide_eq_false (by omega), decide_eq_false (by omega)]
    · rw [decide_eq_true (by omega), decide_eq_true (by omega)]

theorem half_lt {n : Nat} (h : n < B) : Half n := by unfold Half; exact lt_pow_up (i := 1) (j := 20000) (by rw [Nat.pow_one]; exact h) (by decide)
theorem xguess {S : St} {rv bv : AV} {R V d0 : Nat} {F0 F : Fr} {Q : Out → Act' → St → Prop} {c : AC} (H : Has fns) (hr : NatIs S rv R) (hb : NatIs S bv V) (hV : Half V) (hR : Fits R) (hV0 : 0 < V) (p1 : tmpV 1 F0 = bv) (p5 : tmpV 5 F0 = rv)
    (hF : ∀ i, i < 10 → tmpV i F = tmpV i F0) (p12 : tmpV 12 F = .int .u64 (d0 : Int)) (hd : R / V ≤ d0) (hd9 : d0 ≤ 999999999)
    (hc : c = xguessC) (hQ : ∀ F' S', (∀ i, i < 10 → tmpV i F' = tmpV i F0) → tmpV 12 F' = .int .u64 ((R / V : Nat) : Int) → Same S S' → Q .normal ⟨F', false⟩ S') : wpc fns c ⟨F, false⟩ S Q := by
  have hB : B = 1000000000 := rfl
  subst hc
  refine wpc_block (wpc_loop (XGuessI S V R F0) ?_ (d0 - R / V) _ _ ⟨rfl, Same.refl S, hF, by omega, by rw [show R / V + (d0 - R / V) = d0 by omega]; exact p12⟩)
  clear hF p12
  rintro k ⟨F, inr⟩ S' ⟨q0, hS, hF, hk9, p12⟩
  simp only at q0 hF p12
  subst q0
  have e1 := (hF 1 (by omega)).trans p1
  have e5 := (hF 5 (by omega)).trans p5
  have hdm := Nat.div_add_mod R V
  have hml := Nat.mod_lt R hV0
  generalize R % V = rm at *
  obtain ⟨t, ht⟩ : ∃ t, R / V = t := ⟨_, rfl⟩
  rw [ht] at p12 hk9 hdm
  have hvt : V * (t + k) = V * t + V * k := Nat.mul_add ..
  have w0 : IntKind.u32.wrap ((t + k : Nat) : Int) = ((t + k : Nat) : Int) := wrap_u32 (by omega) (by omega)
  have hlt : t + k < B := by omega
  refine wss ?_
  simp only [↓stU, stD, reduceEqDiff, ↓reduceIte, e1, p12, w0]
  refine wpo_call ?_
  simp only [↓stU, stD, reduceEqDiff, ↓reduceIte]
  refine wpf_mono (xsmall_spec H hlt) ?_
  rintro v1 S1 ⟨h1, s1⟩
  try simp only [↓stU, stD, reduceEqDiff, ↓reduceIte]
  refine wpo_call ?_
  simp only [↓stU, stD, reduceEqDiff, ↓reduceIte]
  refine wpf_mono (xtimes_spec H (hb.same (hS.trans s1)) h1 hV.fits (Fits.of (i := 1) (by rw [Nat.pow_one]; exact hlt) (by decide))) ?_
  rintro v2 S2 ⟨h2, s2⟩
  simp only [↓stU, stD, reduceEqDiff, ↓reduceIte, e5]
  refine wpo_call ?_
  simp only [↓stU, stD, reduceEqDiff, ↓reduceIte, e5]
  have hS2 := hS.trans (s1.trans s2)
  refine wpf_mono (xorder_spec H h2 (hr.same hS2) (Half.mul hV (half_lt hlt))) ?_
  rintro v3 S3 ⟨h3, s3⟩
  rw [h3]
  simp only [↓stU, stD, reduceEqDiff, ↓reduceIte, cmpI_gt]
  have hS3 := hS2.trans s3
  by_cases hk : 0 < k
  · have hgt : R < V * (t + k) := by
      have : V * 1 ≤ V * k := Nat.mul_le_mul_left _ hk
      omega
    refine wpc_yes (by simp only [↓stU, stD, reduceEqDiff, ↓reduceIte, decide_eq_true hgt]) (wpc_skip ?_)
    simp only [↓stU, stD, reduceEqDiff, ↓reduceIte]
    have w1 : IntKind.u64.wrap (((t + k : Nat) : Int) - 1) = ((t + (k - 1) : Nat) : Int) := by rw [wrap_u64 (by omega) (by omega)]; omega
    refine wpc_block (wpc_reg ?_)
    simp only [↓stU, stD, reduceEqDiff, ↓reduceIte, p12, w1]
    refine ⟨k - 1, by omega, rfl, hS3, ?_, by rw [ht]; omega, by rw [ht]; simp only [↓stU, stD, reduceEqDiff, ↓reduceIte]⟩
    intro z hz
    simp only [tmpV_putF, show ∀ d, 10 ≤ d → (z = d) = False from fun d hd => by simp; omega, Nat.reduceLeDiff, if_false]
    exact hF z hz
  · have hk0 : k = 0 := by omega
    have hle : ¬ R < V * (t + k) := by
      rw [hk0, Nat.add_zero]; omega
    refine wpc_non (by simp only [↓stU, stD, reduceEqDiff, ↓reduceIte, decide_eq_false hle]) (wpc_exit ?_)
    simp only [↓stU, stD, reduceEqDiff, ↓reduceIte]
    refine hQ _ _ ?_ (by rw [ht]; simp only [↓stU, stD, reduceEqDiff, ↓reduceIte, p12, hk0, Nat.add_zero]) hS3
    intro z hz
    simp only [tmpV_putF, show ∀ d, 10 ≤ d → (z = d) = False from fun d hd => by simp; omega, Nat.reduceLeDiff, if_false]
    exact hF z hz

/-- the code of the loop that makes the remainder less again -/
noncomputable def xrestC : AC :=
(.block 6 (.loop (.seq (.seq (.reg [⟨(some 124),(.q (.mv (.t 14))),none,0⟩,
⟨(some 125),(.q (.bin .geq (.p .int) (.t 124) (.c (.int .i64 (.ofNat 0))))),none,0⟩])
(.cond (.t 125) .skip (.exit 6)))
(.seq (.block 7 (.seq (.reg [⟨(some 128),(.q (.mv (.t 13))),none,0⟩,
⟨(some 129),(.q (.bin .mul (.p .int) (.t 128) (.c (.int .u64 (.ofNat 1000000000))))),none,0⟩,
⟨(some 130),(.q (.mv (.t 5))),none,0⟩,
⟨(some 131),(.q (.mv (.t 14))),none,0⟩,
⟨(some 132),(.q (.iaddr (.slice 1) (.t 130) (.t 131))),none,0⟩,
⟨(some 133),(.q (.ld false 1 (.t 132))),none,0⟩,
⟨(some 134),(.q (.conv (.int .u64) (.t 133))),none,0⟩,
⟨(some 135),(.q (.bin .add (.p .int) (.t 129) (.t 134))),none,0⟩,
⟨(some 13),(.q (.mv (.t 135))),none,0⟩])
(.seq (.reg [⟨(some 136),(.q (.mv (.t 5))),none,0⟩,
⟨(some 137),(.q (.mv (.t 14))),none,0⟩,
⟨(some 138),(.q (.mv (.t 13))),none,0⟩,
⟨(some 139),(.q (.mv (.t 6))),none,0⟩,
⟨(some 140),(.q (.iaddr (.slice 1) (.t 139) (.c (.int .i64 (.ofNat 0))))),none,0⟩,
⟨(some 141),(.q (.ld false 1 (.t 140))),none,0⟩,
⟨(some 142),(.q (.conv (.int .u64) (.t 141))),none,0⟩,
⟨(some 143),(.q (.bin .quo (.p .int) (.t 138) (.t 142))),none,0⟩,
⟨(some 144),(.q (.conv (.int .u32) (.t 143))),none,0⟩,
⟨(some 145),(.q (.iaddr (.slice 1) (.t 136) (.t 137))),none,0⟩,
⟨none,(.x (.st 1 (.t 145) (.t 144))),none,0⟩])
(.reg [⟨(some 146),(.q (.mv (.t 13))),none,0⟩,
⟨(some 147),(.q (.mv (.t 6))),none,0⟩,
⟨(some 148),(.q (.iaddr (.slice 1) (.t 147) (.c (.int .i64 (.ofNat 0))))),none,0⟩,
⟨(some 149),(.q (.ld false 1 (.t 148))),none,0⟩,
⟨(some 150),(.q (.conv (.int .u64) (.t 149))),none,0⟩,
⟨(some 151),(.q (.bin .rem (.p .int) (.t 146) (.t 150))),none,0⟩,
⟨(some 13),(.q (.mv (.t 151))),none,0⟩]))))
(.reg [⟨(some 126),(.q (.mv (.t 14))),none,0⟩,
⟨(some 127),(.q (.bin .sub (.p .int) (.t 126) (.c (.int .i64 (.ofNat 1))))),none,0⟩,
⟨(some 14),(.q (.mv (.t 127))),none,0⟩])))))
theorem xrest {S1 S0 : St} {rv fv : AV} {rl : List Nat} {f : Nat} {F0 F : Fr} {Q : Out → Act' → St → Prop} {c : AC} (hr : OwnIs S1 S0 rv rl) (hs : Small rl) (hlen : rl.length ≤ 100001) (hf0 : 0 < f) (hfB : f < B) (hfv : ∀ b S', S1.nx ≤ b → SameBut b S0 S' → LimbIs S' fv [f]) (p5 : tmpV 5 F0 = rv) (p6 : tmpV 6 F0 = fv)
    (hF : ∀ i, i < 10 → tmpV i F = tmpV i F0) (p13 : tmpV 13 F = .int .u64 0) (p14 : tmpV 14 F = .int .i64 ((rl.length : Int) - 1))
    (hc : c = xrestC) (hQ : ∀ F' S' ds b, (∀ i, i < 10 → tmpV i F' = tmpV i F0) → LimbIs S' rv ds → Small ds → val ds = val rl / f → ds.length = rl.length → S1.nx ≤ b → SameBut b S0 S' → Q .normal ⟨F', false⟩ S') : wpc fns c ⟨F, false⟩ S0 Q := by
  have hB : B = 1000000000 := rfl
  subst hc
  rcases id hr with ⟨rfl, rfl⟩ | ⟨b, cap, o, e, s, rest, hrv, hcap, hb1, hb2, hblk⟩
  · refine wpc_block (wpc_loop (fun k A S' => k = 0 ∧ A = ⟨F, false⟩ ∧ S' = S0) ?_ 0 _ _ ⟨rfl, rfl, rfl⟩)
    rintro k A S' ⟨_, hA, hS'⟩
    rw [hA, hS']
    refine wss ?_
    simp only [↓stU, stD, reduceEqDiff, ↓reduceIte, p14]
    refine wpc_non (by simp only [↓stU, stD, reduceEqDiff, ↓reduceIte, decide_eq_false (show ¬ (0 : Int) ≤ (([] : List Nat).length : Int) - 1 by simp)]) (wpc_exit ?_)
    simp only [↓stU, stD, reduceEqDiff, ↓reduceIte]
    refine hQ _ _ [] S1.nx ?_ hr.limbs Small.nil (by simp [val_nil]) rfl (Nat.le_refl _) (SameBut.refl _ _)
    intro z hz
    simp only [tmpV_putF, show ∀ d, 10 ≤ d → (z = d) = False from fun d hd => by simp; omega, Nat.reduceLeDiff, if_false]
    exact hF z hz
  refine wpc_block (wpc_loop (XRestI S0 S1 b cap o e s rest rl f F0) ?_ rl.length _ _ ⟨rfl, [], 0, Nat.le_refl _, by simp, Small.nil, hf0, hF, p13, p14, SameBut.refl _ _, by rw [List.take_length, List.append_nil]; exact hblk, by rw [List.drop_length]; simp [val_nil]⟩)
  clear hF p13 p14
  rintro k ⟨F, inr⟩ S' ⟨q0, ds, r, hk, hds, hsd, hrf, hF, p13, p14, hS, hblk', hinv⟩
  simp only at q0 hF p13 p14
  subst q0
  have e5 := (hF 5 (by omega)).trans p5
  have e6 := (hF 6 (by omega)).trans p6
  have hfl := hfv b S' hb1 hS
  have hfi := hfl.iaddr (i := 0) (by simp)
  have hfd := hfl.ld (i := 0) (by simp)
  rw [show [f].getD 0 0 = f from rfl] at hfd
  refine wss ?_
  simp only [↓stU, stD, reduceEqDiff, ↓reduceIte, p14]
  by_cases hk0 : 0 < k
  · refine wpc_yes (by simp only [↓stU, stD, reduceEqDiff, ↓reduceIte, decide_eq_true (show (0 : Int) ≤ (k : Int) - 1 by omega)]) (wpc_skip ?_)
    simp only [↓stU, stD, reduceEqDiff, ↓reduceIte]
    obtain ⟨i, rfl⟩ : ∃ i, k = i + 1 := ⟨k - 1, by omega⟩
    have hi : i < rl.length := by omega
    have hpos : i < (rl.take (i + 1) ++ ds ++ rest).length := by simp; omega
    have hld := ld_at hblk' hpos
    have hget : (rl.take (i + 1) ++ ds ++ rest)[i]? = rl[i]? := by
      rw [List.append_assoc, List.getElem?_append_left (by simp; omega), List.getElem?_take, if_pos (by omega)]
    rw [hget] at hld
    have hlt := getD_lt hs i
    have hvd := val_drop hi
    have htk : rl.take (i + 1) = rl.take i ++ [rl[i]?.getD 0] := by rw [List.take_add_one, List.getElem?_eq_getElem hi]; rfl
    generalize rl[i]?.getD 0 = x at *
    have w4 : ((i + 1 : Nat) : Int) - 1 = (i : Int) := by omega
    rw [w4] at p14
    have hrb : r * 1000000000 + x ≤ 999999999 * 1000000000 + 999999999 := by omega
    have w1 : IntKind.u64.wrap ((r : Int) * 1000000000) = ((r * 1000000000 : Nat) : Int) := by rw [wrap_u64 (by omega) (by omega)]; omega
    have w2 : IntKind.u64.wrap (x : Int) = (x : Int) := wrap_u64 (by omega) (by omega)
    have w3 : IntKind.u64.wrap (((r * 1000000000 : Nat) : Int) + (x : Int)) = ((r * 1000000000 + x : Nat) : Int) := by rw [wrap_u64 (by omega) (by omega)]; omega
    have w6 : IntKind.u64.wrap (f : Int) = (f : Int) := wrap_u64 (by omega) (by omega)
    have w5 : IntKind.i64.wrap ((i : Int) - 1) = (i : Int) - 1 := wrap_i64 (by omega) (by omega)
    have hia : iaddrV (.slice 1) rv i = some (.ptr b i) := by rw [hrv]; exact own_ia hi
    refine wpc_seq (wpc_block (wpc_seq (wpc_reg ?_)))
    simp only [↓stU, stD, reduceEqDiff, ↓reduceIte, e5, p13, p14, w1, w2, w3, natOf_cast, hia, hld]
    have hfit : r * 1000000000 + x < f * B := by
      have : (r + 1) * 1000000000 ≤ f * 1000000000 := Nat.mul_le_mul_right _ hrf
      rw [hB]; omega
    have hvi : x + B * val (rl.drop (i + 1)) = B * (val ds * f) + (r * 1000000000 + x) := by rw [hinv, Nat.mul_add, hB]; omega
    obtain ⟨t, ht⟩ : ∃ t, r * 1000000000 + x = t := ⟨_, rfl⟩
    rw [ht] at hrb hfit hvi
    simp only [ht]
    have hquo := bin_quo_u64 (.p .int) (t := t) (d := f) (by omega) hf0
    have hrem := bin_rem_u64 (.p .int) (t := t) (d := f) hf0
    have hdm := Nat.div_add_mod t f
    have hml := Nat.mod_lt t hf0
    have hwB : t / f < B := by rw [Nat.div_lt_iff_lt_mul hf0, Nat.mul_comm]; exact hfit
    generalize t / f = w at *
    generalize t % f = r' at *
    have w7 : IntKind.u32.wrap (w : Int) = (w : Int) := wrap_u32 (by omega) (by omega)
    have hst := st_at (w := w) hblk' hpos
    refine wsr ?_
    simp only [↓stU, stD, reduceEqDiff, ↓reduceIte, e5, e6, p14, natOf_cast, nat0, hfi, hfd, w6, hquo, w7, hia]
    refine wpo_x (fun call => by simp only [↓stU, stD, reduceEqDiff, ↓reduceIte, evX_st, cells_int]; exact hst) ?_
    simp only [↓stU, stD, reduceEqDiff, ↓reduceIte]
    obtain ⟨S2, hS2e⟩ : ∃ S2 : St, S2 = ⟨S'.h.set b (some (.cells (cells32 ((rl.take (i + 1) ++ ds ++ rest).set i w)) e s)), S'.nx⟩ := ⟨_, rfl⟩
    rw [← hS2e]
    have hS2 : SameBut b S0 S2 := by rw [hS2e]; exact hS.put _
    have hblk2 : S2.h.get b = some (.cells (cells32 (rl.take i ++ (w :: ds) ++ rest)) e s) := by
      rw [hS2e]
      simp only
      rw [T.get_set, if_pos rfl, htk]
      congr 3
      rw [List.append_assoc, List.append_assoc, List.set_append_right _ _ (by simp; omega), List.length_take, Nat.min_eq_left (by omega), Nat.sub_self]
      simp
    clear hS2e
    have hfl2 := hfv b S2 hb1 hS2
    have hfi2 := hfl2.iaddr (i := 0) (by simp)
    have hfd2 := hfl2.ld (i := 0) (by simp)
    rw [show [f].getD 0 0 = f from rfl] at hfd2
    refine wpc_reg ?_
    simp only [↓stU, stD, reduceEqDiff, ↓reduceIte, e6, nat0, hfi2, hfd2, w6, hrem]
    refine wpc_reg ?_
    simp only [↓stU, stD, reduceEqDiff, ↓reduceIte, p14, w5]
    refine ⟨i, by omega, rfl, w :: ds, r', by omega, by simp; omega, Small.cons.2 ⟨hwB, hsd⟩, hml, ?_, by simp only [↓stU, stD, reduceEqDiff, ↓reduceIte], by simp only [↓stU, stD, reduceEqDiff, ↓reduceIte], hS2, hblk2, ?_⟩
    · intro z hz
      simp only [tmpV_putF, show ∀ d, 10 ≤ d → (z = d) = False from fun d hd => by simp; omega, Nat.reduceLeDiff, if_false]
      exact hF z hz
    · rw [hvd, hvi, val_cons, Nat.add_mul, Nat.mul_assoc]
      have : w * f = f * w := Nat.mul_comm ..
      omega
  · have hk0 : k = 0 := by omega
    subst hk0
    refine wpc_non (by simp only [↓stU, stD, reduceEqDiff, ↓reduceIte, show decide ((0 : Int) ≤ ((0 : Nat) : Int) - 1) = false from rfl]; try rfl) (wpc_exit ?_)
    simp only [↓stU, stD, reduceEqDiff, ↓reduceIte]
    rw [List.take_zero, List.nil_append] at hblk'
    have hdl : ds.length = rl.length := by omega
    refine hQ _ _ ds b ?_ ?_ hsd ?_ hdl hb1 hS
    · intro z hz
      simp only [tmpV_putF, show ∀ d, 10 ≤ d → (z = d) = False from fun d hd => by simp; omega, Nat.reduceLeDiff, if_false]
      exact hF z hz
    · rw [hrv, ← hdl]
      exact limbs_part hblk' (Nat.lt_of_lt_of_le hb2 hS.1) (by omega)
    · rw [List.drop_zero] at hinv
      rw [hinv, Nat.mul_comm, Nat.mul_add_div hf0, Nat.div_eq_of_lt hrf, Nat.add_zero]
end Go.Ev.Gl

namespace Go.Ev.Gl
variable {fns : T AFn}

theorem runD_app {W : Nat → Prop} {h0 : T AB} {base i : Nat} {l : List AO} {F : Fr} {S : St} {ps : List Pend} {last : Option Nat} {Q : Fr → St → List Pend → Prop} {d : Option Nat} {m t size bytes : Nat} {s x : Opd} {r : AV} {S1 : St} (h : inMask last m = true) (he : appendV bytes size (s.val F) (x.val F) ⟨(flush m ps S.h).2, S.nx⟩ = some (r, S1)) (ho : OffW W base ⟨(flush m ps S.h).2, S.nx⟩ S1) (hr : runD fns W h0 base l (i + 1) (putF d F r) S1 (flush m ps S.h).1 (some i) Q) : runD fns W h0 base (⟨d, .x (.app t size bytes s x), none, m⟩ :: l) i F S ps last Q := by
  unfold runD; rw [if_pos (show wants none F = true from rfl)]; exact ⟨h, _, S1, fun call => he, ho, hr⟩
theorem flush_off {m j id : Nat} {bl : AB} {h : T AB} (ht : Nat.testBit m j = false) : flush m [⟨j, id, bl⟩] h = ([⟨j, id, bl⟩], h) := by
  unfold flush
  rw [show Nat.testBit m (Pend.mk j id bl).i = false from ht, bsel_false]
  rfl
theorem quo_Bt {t : Nat} (ht : t ≤ 999999999) : binV .quo (.p .int) (.int .u64 1000000000) (.int .u64 ((t + 1 : Nat) : Int)) = some (.int .u64 ((B / (t + 1) : Nat) : Int)) := bin_quo_u64 (.p .int) (t := B) (d := t + 1) (by decide) (by omega)

theorem lt_of_norm_len {l m : List Nat} (hl : Norm l) (hm : Norm m) (h : val m ≤ val l) : m.length ≤ l.length := by
  rcases Nat.lt_or_ge l.length m.length with h1 | h1
  · have := val_le_of_len hl.1 hm h1; omega
  · exact h1
theorem norm_drop {l : List Nat} (h : Norm l) (i : Nat) : Norm (l.drop i) := by
  refine ⟨fun z hz => h.1 z (List.mem_of_mem_drop hz), ?_⟩
  rcases Nat.lt_or_ge i l.length with hi | hi
  · rw [List.getLast?_drop, if_neg (by omega)]; exact h.2
  · rw [List.drop_of_length_le hi]; simp
theorem norm_snoc {l : List Nat} (h : Norm l) (h0 : 0 < val l) : ∃ m t, l = m ++ [t] ∧ 0 < t ∧ t < B := by
  have hne : l ≠ [] := fun e => by subst e; simp [val_nil] at h0
  refine ⟨l.dropLast, l.getLast hne, (List.dropLast_concat_getLast hne).symm, ?_, h.1 _ (List.getLast_mem hne)⟩
  rcases Nat.eq_zero_or_pos (l.getLast hne) with h1 | h1
  · exact absurd (by rw [List.getLast?_eq_some_getLast hne, h1]) h.2
  · exact h1

theorem OwnN.lowN {S0 S1 S : St} {v : AV} {n : Nat} (h : OwnN S1 S v n) (hS : S0.nx ≤ S1.nx) : OwnN S0 S v n := by
  obtain ⟨l, h1, h2⟩ := h
  refine ⟨l, ?_, h2⟩
  rcases h1 with h | ⟨b, cap, o, e, s, rest, k1, k2, k3, k4⟩
  · exact .inl h
  · exact .inr ⟨b, cap, o, e, s, rest, k1, k2, Nat.le_trans hS k3, k4⟩
theorem nat_one {S : St} {v : AV} {f : Nat} (h : NatIs S v f) (h0 : 0 < f) (hB : f < B) : LimbIs S v [f] := by
  obtain ⟨l, h1, h2, h3⟩ := h
  have hn : Norm [f] := ⟨small_one hB, by simp; omega⟩
  rw [← norm_inj h2 hn (by rw [h3]; simp [val_cons, val_nil])]
  exact h1

/-- QUOTIENT AND REMAINDER, as the reference has them. -/
theorem xover_spec {S : St} {a b : AV} {x y : Nat} (H : Has fns) (ha : NatIs S a x) (hb : NatIs S b y) {K : Nat} (hx : x < B ^ K) (hK : K ≤ 19000) (hy0 : 0 < y) : wpf fns (.fn 78 [] []) [a, b] S fun r S' => ∃ q u, r = .tup [q, u] ∧ NatIs S' q (x / y) ∧ NatIs S' u (x % y) ∧ Same S S' := by
  have hB : B = 1000000000 := rfl
  have hxF : Fits x := Fits.of hx (by omega)
  refine wpf_fn H.f78 (by simp) ?_
  simp only [↓stU, stD, reduceEqDiff, ↓reduceIte]
  refine wsr ?_
  simp only [↓stU, stD, reduceEqDiff, ↓reduceIte]
  refine wss ?_
  simp only [↓stU, stD, reduceEqDiff, ↓reduceIte]
  refine wpo_call ?_
  simp only [↓stU, stD, reduceEqDiff, ↓reduceIte]
  refine wpf_mono (xorder_spec H ha hb hxF) ?_
  rintro c T1 ⟨hc, hT1⟩
  rw [hc]
  simp only [↓stU, stD, reduceEqDiff, ↓reduceIte, cmpI_lt]
  by_cases hlt : x < y
  · refine wpc_yes (by simp only [↓stU, stD, reduceEqDiff, ↓reduceIte, decide_eq_true hlt]) ?_
    refine wsr ?_
    simp only [↓stU, stD, reduceEqDiff, ↓reduceIte]
    refine wpc_ret ?_
    simp only [↓stU, stD, reduceEqDiff, ↓reduceIte]
    refine ⟨_, _, rfl, ?_, ?_, hT1⟩
    · rw [Nat.div_eq_of_lt hlt]; exact nat_nil
    · rw [Nat.mod_eq_of_lt hlt]; exact ha.same hT1
  refine wpc_non (by simp only [↓stU, stD, reduceEqDiff, ↓reduceIte, decide_eq_false hlt]) (wpc_skip ?_)
  simp only [↓stU, stD, reduceEqDiff, ↓reduceIte]
  have ha1 := ha.same hT1
  have hb1 := hb.same hT1
  obtain ⟨l, hla, hl, hlx⟩ := id ha1
  obtain ⟨m, hmb, hm, hmy⟩ := id hb1
  obtain ⟨m', t, rfl, ht0, htB⟩ := norm_snoc hm (by omega)
  obtain ⟨hf0, hf1, _, hf2⟩ := factor_ok ht0 htB
  have hflen := factor_len hm.1 hf1 hf0
  have hyx : y ≤ x := by omega
  have hml : (m' ++ [t]).length ≤ K := len_le hm (by rw [hmy]; omega)
  have hmlen : (m' ++ [t]).length = m'.length + 1 := by simp
  have hbl := hmb.len
  have hbi := hmb.iaddr (i := m'.length) (by omega)
  have hbd := hmb.ld (i := m'.length) (by omega)
  rw [show (m' ++ [t]).getD m'.length 0 = t by simp] at hbd
  rw [hmlen] at hbl
  have w0 : IntKind.i64.wrap (((m'.length + 1 : Nat) : Int) - 1) = (m'.length : Int) := by rw [wrap_i64 (by omega) (by omega)]; omega
  have w1 : IntKind.u64.wrap (t : Int) = (t : Int) := wrap_u64 (by omega) (by omega)
  have w2 : IntKind.u64.wrap ((t : Int) + 1) = ((t + 1 : Nat) : Int) := by rw [wrap_u64 (by omega) (by omega)]; omega
  have hq := quo_Bt (t := t) (by omega)
  rw [hmy] at hflen
  generalize B / (t + 1) = f at *
  have w3 : IntKind.u32.wrap (f : Int) = (f : Int) := wrap_u32 (by omega) (by omega)
  have hfB : f < B := by omega
  refine wsr ?_
  simp only [↓stU, stD, reduceEqDiff, ↓reduceIte, hbl, w0, natOf_cast, hbi, hbd, w1, w2, hq, w3]
  refine wpo_call ?_
  simp only [↓stU, stD, reduceEqDiff, ↓reduceIte]
  refine wpf_mono (xsmall_spec H hfB) ?_
  rintro fv T2 ⟨hf, hT2⟩
  try simp only [↓stU, stD, reduceEqDiff, ↓reduceIte]
  refine wsr ?_
  simp only [↓stU, stD, reduceEqDiff, ↓reduceIte]
  refine wpo_call ?_
  simp only [↓stU, stD, reduceEqDiff, ↓reduceIte]
  refine wpf_mono (xtimes_spec H (ha1.same hT2) hf hxF (half_lt hfB).fits) ?_
  rintro av T3 ⟨hav, hT3⟩
  try simp only [↓stU, stD, reduceEqDiff, ↓reduceIte]
  refine wpo_call ?_
  simp only [↓stU, stD, reduceEqDiff, ↓reduceIte]
  refine wpf_mono (xtimes_spec H (hb1.same (hT2.trans hT3)) (hf.same hT3) (hxF.mono hyx) (half_lt hfB).fits) ?_
  rintro bv S0 ⟨hbv, hT4⟩
  try simp only [↓stU, stD, reduceEqDiff, ↓reduceIte]
  have hav := hav.same hT4
  have hfv := hf.same (hT3.trans hT4)
  have hST : Same S S0 := hT1.trans (hT2.trans (hT3.trans hT4))
  obtain ⟨u, hua, hu, hux⟩ := id hav
  obtain ⟨v, hvb, hv, hvy⟩ := id hbv
  have hVpos : 0 < val v := by rw [hvy]; exact Nat.mul_pos hy0 hf0
  obtain ⟨v', top, hve, htop, htopB⟩ := norm_snoc hv hVpos
  have hvl : v.length ≤ m'.length + 1 := len_le hv (by rw [hvy]; exact hflen)
  have hvlen : v.length = v'.length + 1 := by rw [hve]; simp
  have huN : v.length ≤ u.length := lt_of_norm_len hu hv (by rw [hux, hvy]; exact Nat.mul_le_mul_right _ hyx)
  have hul : u.length ≤ K + 1 := len_le hu (by rw [hux]; exact mul_lt_pow (i := K) (j := 1) hx (by rw [Nat.pow_one]; exact hfB))
  have hHV : Half (val v) := by unfold Half; exact lt_pow_up (j := 20000) (val_lt hv.1) (by omega)
  have hul' := hua.len
  have hvl' := hvb.len
  have hvi := hvb.iaddr (i := v'.length) (by omega)
  have hvd := hvb.ld (i := v'.length) (by omega)
  rw [show v.getD v'.length 0 = top by rw [hve]; simp] at hvd
  have w4 : IntKind.i64.wrap (((v.length : Nat) : Int) - 1) = (v'.length : Int) := by rw [wrap_i64 (by omega) (by omega)]; omega
  have w5 : IntKind.u64.wrap (top : Int) = (top : Int) := wrap_u64 (by omega) (by omega)
  refine wsr ?_
  simp only [↓stU, stD, reduceEqDiff, ↓reduceIte, hvl', w4, natOf_cast, hvi, hvd, w5]
  refine wsr ?_
  simp only [↓stU, stD, reduceEqDiff, ↓reduceIte, hvl']
  -- the quotient's block and the first remainder
  have w6 : IntKind.i64.wrap (((u.length : Nat) : Int) - ((v.length : Nat) : Int)) = ((u.length - v.length : Nat) : Int) := by rw [wrap_i64 (by omega) (by omega)]; omega
  have w7 : IntKind.i64.wrap (((u.length - v.length : Nat) : Int) + 1) = ((u.length - v.length + 1 : Nat) : Int) := by rw [wrap_i64 (by omega) (by omega)]; omega
  refine wpc_seq (wpc_drd (fun _ => False) ?_)
  simp only [↓sU, sD, reduceEqDiff, ↓reduceIte, reduceAdd, hul', w6, w7]
  rw [evA_mk (n := u.length - v.length + 1) (by simp only [↓sU, sD, reduceEqDiff, ↓reduceIte, reduceAdd, natOf_cast]) (by simp only [↓sU, sD, reduceEqDiff, ↓reduceIte, reduceAdd, natOf_cast]) (by unfold room; omega) (by unfold room; omega)]
  simp only [↓sU, sD, reduceEqDiff, ↓reduceIte, reduceAdd, hul', w6, w7]
  have htail := hua.tailL (i := u.length - v.length + 1) (by omega)
  rw [hua.tailE (i := u.length - v.length + 1) (by omega) (by simp only [↓sU, sD, reduceEqDiff, ↓reduceIte, reduceAdd, natOf_cast])]
  simp only [↓sU, sD, reduceEqDiff, ↓reduceIte, reduceAdd]
  obtain ⟨Sp, hSp⟩ : ∃ Sp : St, Sp = ⟨S0.h, S0.nx + 17⟩ := ⟨_, rfl⟩
  have hS0p : Same S0 Sp := by rw [hSp]; exact Same.nx S0 17
  obtain ⟨r0, S1, happ, hg0, hS1⟩ := app_nilG (S := Sp) (bytes := 4) (htail.same hS0p) (by rw [List.length_drop]; unfold room; omega) (by rw [List.length_drop]; unfold room; omega)
  have hpn : Sp.nx = S0.nx + 17 := by rw [hSp]
  refine runD_app rfl (by rw [flush_off rfl]; simp only [↓sU, sD, reduceEqDiff, ↓reduceIte, reduceAdd]; rw [← hSp]; exact happ) ?_ ?_
  · rw [flush_off rfl]
    exact ⟨by rw [← hpn]; exact hS1.1, fun b hb _ => by rw [hS1.2 b (by omega), hSp]⟩
  rw [flush_off rfl]
  simp only [↓sU, sD, reduceEqDiff, ↓reduceIte, reduceAdd]
  rw [flush_one (by decide)]
  try simp only [↓sU, sD, reduceEqDiff, ↓reduceIte, reduceAdd]
  obtain ⟨bq, hbq⟩ : ∃ bq, bq = S0.nx + 5 := ⟨_, rfl⟩
  rw [← hbq]
  obtain ⟨S2, hS2⟩ : ∃ S2 : St, S2 = ⟨S1.h.set bq (some (.cells (repeatL [AV.int .u32 0] (u.length - v.length + 1)) false 0)), S1.nx⟩ := ⟨_, rfl⟩
  rw [← hS2]
  have hn1 : Sp.nx ≤ S1.nx := hS1.1
  have hn2 : S2.nx = S1.nx := by rw [hS2]
  have hS02 : Same S0 S2 := by rw [hS2]; exact (hS0p.trans hS1).put (by omega) _
  have hb2 : SameBut bq S1 S2 := by rw [hS2]; exact (SameBut.refl bq S1).put _
  have hblk : S2.h.get bq = some (.cells (cells32 (List.replicate (u.length - v.length + 1) 0 ++ [])) false 0) := by
    rw [hS2, List.append_nil, ← cells32_zeros]
    simp only
    rw [T.get_set, if_pos rfl]
  have hr0 : NatIs S2 r0 (val (u.drop (u.length - v.length + 1))) := ⟨_, (hg0.own.but hb2 (by omega)).limbs, norm_drop hu _, rfl⟩
  have hR0 : val (u.drop (u.length - v.length + 1)) < val v := by
    have h1 := val_lt (norm_drop hu (u.length - v.length + 1)).1
    have h2 := norm_low hv (fun e => by rw [e] at hvlen; simp at hvlen)
    rw [List.length_drop, show u.length - (u.length - v.length + 1) = v.length - 1 by omega] at h1
    omega
  clear hS2 happ hSp
  refine wss ?_
  simp only [↓stU, stD, reduceEqDiff, ↓reduceIte, hul', w6]
  refine wpc_block (wpc_loop (XDivI S0 S2 bq av bv fv u v top) ?_ (u.length - v.length + 1) _ _ ⟨rfl, r0, _, [], Nat.le_refl _, by simp, Small.nil, by simp only [↓stU, stD, reduceEqDiff, ↓reduceIte], by simp only [↓stU, stD, reduceEqDiff, ↓reduceIte], by simp only [↓stU, stD, reduceEqDiff, ↓reduceIte], by simp only [↓stU, stD, reduceEqDiff, ↓reduceIte], by simp only [↓stU, stD, reduceEqDiff, ↓reduceIte], by simp only [↓stU, stD, reduceEqDiff, ↓reduceIte], by simp only [↓stU, stD, reduceEqDiff, ↓reduceIte], by simp only [↓stU, stD, reduceEqDiff, ↓reduceIte]; congr 1; omega, hS02, Nat.le_refl _, hblk, hr0, hR0, by simp [val_nil], .inl rfl⟩)
  clear hr0 hR0 hblk hb2
  rintro k ⟨F, inr⟩ S' ⟨q0, rv, R, qs, hkn, hqs, hsq, p0, p1, p4, p5, p6, p7, p8, p9, hS, hnx, hblk, hr, hRV, hinv, hor⟩
  simp only at q0 p0 p1 p4 p5 p6 p7 p8 p9
  subst q0
  refine wss ?_
  simp only [↓stU, stD, reduceEqDiff, ↓reduceIte, p9]
  by_cases hk0 : 0 < k
  · refine wpc_yes (by simp only [↓stU, stD, reduceEqDiff, ↓reduceIte, decide_eq_true (show (0 : Int) ≤ (k : Int) - 1 by omega)]) (wpc_skip ?_)
    simp only [↓stU, stD, reduceEqDiff, ↓reduceIte]
    obtain ⟨i, rfl⟩ : ∃ i, k = i + 1 := ⟨k - 1, by omega⟩
    have hi : i < u.length := by omega
    have w8 : ((i + 1 : Nat) : Int) - 1 = (i : Int) := by omega
    rw [w8] at p9
    have hua' := hua.same hS
    have hld := hua'.ld hi
    rw [List.getD_eq_getElem?_getD] at hld
    have hlt := getD_lt hu.1 i
    have hvdr := val_drop hi
    generalize u[i]?.getD 0 = ui at *
    obtain ⟨rl, hrl, hrn, hrR⟩ := id hr
    have hrlen : rl.length ≤ v.length := len_le hrn (by rw [hrR]; exact Nat.lt_trans hRV (val_lt hv.1))
    refine wpc_seq (wpc_block (wpc_seq (wpc_reg ?_)))
    simp only [↓stU, stD, reduceEqDiff, ↓reduceIte, p0, p9, natOf_cast, hua.iaddr hi, hld]
    refine wpo_al (evA_one (k := .u32) (n := (ui : Int)) (by simp only [↓stU, stD, reduceEqDiff, ↓reduceIte])) ?_
    intro S3 s3 n3 g3
    simp only [↓stU, stD, reduceEqDiff, ↓reduceIte, p5]
    obtain ⟨r1, S4, happ, hr1, s4⟩ := app_full (S := S3) (b := S'.nx) (l := [ui]) (bytes := 4) g3 (by omega) (hrl.same s3) (by simp; unfold room; omega) (by simp; unfold room; omega)
    refine wpo_x (fun call => by simp only [↓stU, stD, reduceEqDiff, ↓reduceIte, evX_app, p5]; exact happ) ?_
    try simp only [↓stU, stD, reduceEqDiff, ↓reduceIte]
    refine wpo_call ?_
    simp only [↓stU, stD, reduceEqDiff, ↓reduceIte]
    have hsm : Small ([ui] ++ rl) := Small.append.2 ⟨small_one hlt, hrn.1⟩
    refine wpf_mono (xtrim_spec H hr1 hsm (by simp; omega)) ?_
    rintro r2 S5 ⟨hr2, hS5⟩
    rw [hS5]
    clear hS5
    have hval : val ([ui] ++ rl) = ui + B * R := by rw [show [ui] ++ rl = ui :: rl from rfl, val_cons, hrR]
    rw [hval] at hr2
    have hS4 : Same S' S4 := s3.trans s4
    have hBV : ui + B * R < B * val v := by
      have : B * (R + 1) ≤ B * val v := Nat.mul_le_mul_left _ hRV
      rw [Nat.mul_add, Nat.mul_one] at this
      omega
    obtain ⟨R', hR'⟩ : ∃ R', ui + B * R = R' := ⟨_, rfl⟩
    rw [hR'] at hr2 hBV
    obtain ⟨rl2, hrl2, hrn2, hrR2⟩ := id hr2
    have hR'P : R' < B ^ (v.length + 1) := by
      have h1 : B * val v < B * B ^ v.length := Nat.mul_lt_mul_of_pos_left (val_lt hv.1) B_pos
      rw [Nat.pow_succ, Nat.mul_comm _ B]
      omega
    have hrlen2 : rl2.length ≤ v.length + 1 := len_le hrn2 (by rw [hrR2]; exact hR'P)
    have hR'F : Fits R' := Fits.of hR'P (by omega)
    try simp only [↓stU, stD, reduceEqDiff, ↓reduceIte]
    refine wsr ?_
    simp only [↓stU, stD, reduceEqDiff, ↓reduceIte]
    refine wss ?_
    have w9 : IntKind.i64.wrap (((rl2.length : Nat) : Int) - 1) = (rl2.length : Int) - 1 := wrap_i64 (by omega) (by omega)
    simp only [↓stU, stD, reduceEqDiff, ↓reduceIte, hrl2.len, w9]
    refine xlead (rl := rl2) (v := v) (rv := r2) (bv := bv) hrl2 (hvb.same (hS.trans hS4)) hrn2.1 (by omega) hrlen2 (by omega) ?_ ?_ (fun _ _ => rfl) ?_ ?_ rfl ?_
    · simp only [↓stU, stD, reduceEqDiff, ↓reduceIte, p1]
    · simp only [↓stU, stD, reduceEqDiff, ↓reduceIte]
    · simp only [↓stU, stD, reduceEqDiff, ↓reduceIte]
    · simp only [↓stU, stD, reduceEqDiff, ↓reduceIte]
    intro F1 k1 p10
    have z0 : tmpV 0 F1 = av := (k1 0 (by omega)).trans (by simp only [↓stU, stD, reduceEqDiff, ↓reduceIte, p0])
    have z1 : tmpV 1 F1 = bv := (k1 1 (by omega)).trans (by simp only [↓stU, stD, reduceEqDiff, ↓reduceIte, p1])
    have z4 : tmpV 4 F1 = .sl bq 0 (u.length - v.length + 1) (u.length - v.length + 1) false := (k1 4 (by omega)).trans (by simp only [↓stU, stD, reduceEqDiff, ↓reduceIte, p4])
    have z5 : tmpV 5 F1 = r2 := (k1 5 (by omega)).trans (by simp only [↓stU, stD, reduceEqDiff, ↓reduceIte])
    have z6 : tmpV 6 F1 = fv := (k1 6 (by omega)).trans (by simp only [↓stU, stD, reduceEqDiff, ↓reduceIte, p6])
    have z7 : tmpV 7 F1 = .int .u64 (top : Int) := (k1 7 (by omega)).trans (by simp only [↓stU, stD, reduceEqDiff, ↓reduceIte, p7])
    have z8 : tmpV 8 F1 = .int .i64 ((v.length : Nat) : Int) := (k1 8 (by omega)).trans (by simp only [↓stU, stD, reduceEqDiff, ↓reduceIte, p8])
    have z9 : tmpV 9 F1 = .int .i64 (i : Int) := (k1 9 (by omega)).trans (by simp only [↓stU, stD, reduceEqDiff, ↓reduceIte, p9])
    clear k1 p0 p1 p4 p5 p6 p7 p8 p9
    simp only [↓stU, stD, reduceEqDiff, ↓reduceIte]
    -- the digit's estimate
    have hsplit : rl2 = rl2.take (v.length - 1) ++ rl2.drop (v.length - 1) := (List.take_append_drop _ _).symm
    have hleadR : R' < (val (rl2.drop (v.length - 1)) + 1) * B ^ (v.length - 1) := by
      have h1 := val_lt (hrn2.1.take (v.length - 1))
      have h2 := lt_pow_up h1 (show (rl2.take (v.length - 1)).length ≤ v.length - 1 by rw [List.length_take]; omega)
      have h3 := val_append (rl2.take (v.length - 1)) (rl2.drop (v.length - 1))
      rw [← hsplit, hrR2] at h3
      rw [Nat.add_mul, Nat.one_mul]
      rcases Nat.lt_or_ge rl2.length (v.length - 1) with h4 | h4
      · rw [List.drop_of_length_le (by omega)] at h3 ⊢
        simp only [val_nil, Nat.mul_zero, Nat.add_zero, Nat.zero_mul, Nat.zero_add] at h3 ⊢
        omega
      · rw [List.length_take, Nat.min_eq_left h4, Nat.mul_comm] at h3
        omega
    have hleadB : val (rl2.drop (v.length - 1)) < 1000000000000000000 := by
      have h1 : Small (rl2.drop (v.length - 1)) := fun z hz => hrn2.1 z (List.mem_of_mem_drop hz)
      have h2 := lt_pow_up (val_lt h1) (show (rl2.drop (v.length - 1)).length ≤ 2 by rw [List.length_drop]; omega)
      exact h2
    generalize val (rl2.drop (v.length - 1)) = lead at *
    have hVtop : top * B ^ (v.length - 1) ≤ val v := by
      rw [hve, val_snoc, show (v' ++ [top]).length - 1 = v'.length by simp, Nat.mul_comm]
      exact Nat.le_add_left _ _
    have htd : R' / val v ≤ lead / top := digit_le (Nat.div_mul_le_self _ _) hVtop hleadR (pow_B_pos _) htop
    have htB : R' / val v < B := by rw [Nat.div_lt_iff_lt_mul hVpos]; exact hBV
    have hquo := bin_quo_u64 (.p .int) (t := lead) (d := top) (by omega) htop
    generalize lead / top = g at *
    have hmm : minmaxL false [.int .u64 (g : Int), .int .u64 999999999] = some (.int .u64 ((min g 999999999 : Nat) : Int)) := minmax_u64 g 999999999
    refine wsr ?_
    simp only [↓stU, stD, reduceEqDiff, ↓reduceIte, p10, z7, hquo, evQ_minmax, valsOf_cons, valsOf_nil, hmm]
    refine wpc_seq (xguess (R := R') (V := val v) (d0 := min g 999999999) (rv := r2) (bv := bv) H hr2 ⟨v, hvb.same (hS.trans hS4), hv, rfl⟩ hHV hR'F hVpos ?_ ?_ (fun _ _ => rfl) ?_ (by omega) (by omega) rfl ?_)
    · simp only [↓stU, stD, reduceEqDiff, ↓reduceIte, z1]
    · simp only [↓stU, stD, reduceEqDiff, ↓reduceIte, z5]
    · simp only [↓stU, stD, reduceEqDiff, ↓reduceIte]
    intro F2 S6 k2 p12 s6
    have y0 : tmpV 0 F2 = av := (k2 0 (by omega)).trans (by simp only [↓stU, stD, reduceEqDiff, ↓reduceIte, z0])
    have y1 : tmpV 1 F2 = bv := (k2 1 (by omega)).trans (by simp only [↓stU, stD, reduceEqDiff, ↓reduceIte, z1])
    have y4 : tmpV 4 F2 = .sl bq 0 (u.length - v.length + 1) (u.length - v.length + 1) false := (k2 4 (by omega)).trans (by simp only [↓stU, stD, reduceEqDiff, ↓reduceIte, z4])
    have y5 : tmpV 5 F2 = r2 := (k2 5 (by omega)).trans (by simp only [↓stU, stD, reduceEqDiff, ↓reduceIte, z5])
    have y6 : tmpV 6 F2 = fv := (k2 6 (by omega)).trans (by simp only [↓stU, stD, reduceEqDiff, ↓reduceIte, z6])
    have y7 : tmpV 7 F2 = .int .u64 (top : Int) := (k2 7 (by omega)).trans (by simp only [↓stU, stD, reduceEqDiff, ↓reduceIte, z7])
    have y8 : tmpV 8 F2 = .int .i64 ((v.length : Nat) : Int) := (k2 8 (by omega)).trans (by simp only [↓stU, stD, reduceEqDiff, ↓reduceIte, z8])
    have y9 : tmpV 9 F2 = .int .i64 (i : Int) := (k2 9 (by omega)).trans (by simp only [↓stU, stD, reduceEqDiff, ↓reduceIte, z9])
    clear k2 z0 z1 z4 z5 z6 z7 z8 z9 p10
    try simp only [↓stU, stD, reduceEqDiff, ↓reduceIte]
    have hS6 : Same S' S6 := hS4.trans s6
    have hdm := Nat.div_add_mod R' (val v)
    have hml := Nat.mod_lt R' hVpos
    generalize hRd : R' / val v = d at *
    generalize hRm : R' % val v = R2 at *
    have hdR : val v * d ≤ R' := by omega
    have w10 : IntKind.u32.wrap (d : Int) = (d : Int) := wrap_u32 (by omega) (by omega)
    refine wpc_reg ?_
    simp only [↓stU, stD, reduceEqDiff, ↓reduceIte, y1, y4, y5, y9, p12, w10]
    refine wpo_call ?_
    simp only [↓stU, stD, reduceEqDiff, ↓reduceIte]
    refine wpf_mono (xsmall_spec H htB) ?_
    rintro v1 S7 ⟨h1, s7⟩
    try simp only [↓stU, stD, reduceEqDiff, ↓reduceIte]
    refine wpo_call ?_
    simp only [↓stU, stD, reduceEqDiff, ↓reduceIte]
    refine wpf_mono (xtimes_spec H (⟨v, hvb.same (hS.trans (hS6.trans s7)), hv, rfl⟩ : NatIs S7 bv (val v)) h1 hHV.fits (half_lt htB).fits) ?_
    rintro v2 S8 ⟨h2, s8⟩
    try simp only [↓stU, stD, reduceEqDiff, ↓reduceIte]
    refine wpo_call ?_
    simp only [↓stU, stD, reduceEqDiff, ↓reduceIte]
    refine wpf_mono (xminus_spec H (hr2.same (s6.trans (s7.trans s8))) h2 hR'F hdR) ?_
    rintro v3 S9 ⟨h3, s9⟩
    rw [show R' - val v * d = R2 by omega] at h3
    have hS9 : Same S' S9 := hS6.trans (s7.trans (s8.trans s9))
    have n8 : S2.nx ≤ S8.nx := Nat.le_trans hnx (hS6.trans (s7.trans s8)).1
    have hbq9 : bq < S2.nx := by omega
    have hblk9 : S9.h.get bq = some (.cells (cells32 (List.replicate (i + 1) 0 ++ qs)) false 0) := by rw [hS9.2 _ (by omega)]; exact hblk
    have hst := st_at (w := d) hblk9 (p := i) (by simp; omega)
    rw [set_low] at hst
    simp only [↓stU, stD, reduceEqDiff, ↓reduceIte, y4, y9, p12, w10, natOf_cast, own_ia (show i < u.length - v.length + 1 by omega)]
    refine wpo_x (fun call => by simp only [↓stU, stD, reduceEqDiff, ↓reduceIte, evX_st, cells_int]; exact hst) ?_
    simp only [↓stU, stD, reduceEqDiff, ↓reduceIte]
    obtain ⟨SA, hSA⟩ : ∃ SA : St, SA = ⟨S9.h.set bq (some (.cells (cells32 (List.replicate i 0 ++ (d :: qs))) false 0)), S9.nx⟩ := ⟨_, rfl⟩
    rw [← hSA]
    have hSAb : SameBut bq S9 SA := by rw [hSA]; exact (SameBut.refl bq S9).put _
    have hSA0 : Same S0 SA := hSAb.same (hS.trans hS9) (by omega)
    have hSAn : SA.nx = S9.nx := by rw [hSA]
    have hblkA : SA.h.get bq = some (.cells (cells32 (List.replicate i 0 ++ (d :: qs))) false 0) := by
      rw [hSA]; simp only; rw [T.get_set, if_pos rfl]
    clear hSA
    have h3A := (h3.lowN n8).but hSAb hbq9
    have w11 : IntKind.i64.wrap ((i : Int) - 1) = (i : Int) - 1 := wrap_i64 (by omega) (by omega)
    refine wpc_reg ?_
    simp only [↓stU, stD, reduceEqDiff, ↓reduceIte, y9, w11]
    refine ⟨i, by omega, rfl, v3, R2, d :: qs, by omega, by simp; omega, Small.cons.2 ⟨htB, hsq⟩, by simp only [↓stU, stD, reduceEqDiff, ↓reduceIte, y0], by simp only [↓stU, stD, reduceEqDiff, ↓reduceIte, y1], by simp only [↓stU, stD, reduceEqDiff, ↓reduceIte, y4], by simp only [↓stU, stD, reduceEqDiff, ↓reduceIte], by simp only [↓stU, stD, reduceEqDiff, ↓reduceIte, y6], by simp only [↓stU, stD, reduceEqDiff, ↓reduceIte, y7], by simp only [↓stU, stD, reduceEqDiff, ↓reduceIte, y8], by simp only [↓stU, stD, reduceEqDiff, ↓reduceIte], hSA0, ?_, hblkA, h3A.nat, hml, ?_, .inr h3A⟩
    · have := hS9.1; omega
    · rw [hvdr, hinv, val_cons, Nat.mul_add, Nat.add_mul, Nat.mul_assoc, Nat.mul_comm d]
      omega
  · have hk : k = 0 := by omega
    subst hk
    refine wpc_non (by simp only [↓stU, stD, reduceEqDiff, ↓reduceIte, show decide ((0 : Int) ≤ ((0 : Nat) : Int) - 1) = false from rfl]; try rfl) (wpc_exit ?_)
    simp only [↓stU, stD, reduceEqDiff, ↓reduceIte]
    rcases hor with h | hown
    · omega
    obtain ⟨rl, hrl, hrn, hrR⟩ := id hown
    have hrlen : rl.length ≤ v.length := len_le hrn (by rw [hrR]; exact Nat.lt_trans hRV (val_lt hv.1))
    rw [List.drop_zero, hux, hvy] at hinv
    rw [hvy] at hRV
    obtain ⟨hq1, hq2⟩ := div_end hf0 hinv hRV
    rw [List.replicate_zero, List.nil_append] at hblk
    have w9 : IntKind.i64.wrap (((rl.length : Nat) : Int) - 1) = (rl.length : Int) - 1 := wrap_i64 (by omega) (by omega)
    have hf1' := nat_one hfv hf0 hfB
    refine wsr ?_
    simp only [↓stU, stD, reduceEqDiff, ↓reduceIte]
    refine wss ?_
    simp only [↓stU, stD, reduceEqDiff, ↓reduceIte, p5, hrl.limbs.len, w9]
    refine xrest (S1 := S2) (rl := rl) (rv := rv) (fv := fv) (f := f) hrl hrn.1 (by omega) hf0 hfB ?_ ?_ ?_ (fun _ _ => rfl) ?_ ?_ rfl ?_
    · intro b SB hb hSB
      exact hf1'.same (hSB.same hS (Nat.le_trans hS02.1 hb))
    · simp only [↓stU, stD, reduceEqDiff, ↓reduceIte, p5]
    · simp only [↓stU, stD, reduceEqDiff, ↓reduceIte, p6]
    · simp only [↓stU, stD, reduceEqDiff, ↓reduceIte]
    · simp only [↓stU, stD, reduceEqDiff, ↓reduceIte]
    intro F1 SB ds b k1 hds hsds hvds hdl hb hSB
    have z4 : tmpV 4 F1 = .sl bq 0 (u.length - v.length + 1) (u.length - v.length + 1) false := (k1 4 (by omega)).trans (by simp only [↓stU, stD, reduceEqDiff, ↓reduceIte, p4])
    have z5 : tmpV 5 F1 = rv := (k1 5 (by omega)).trans (by simp only [↓stU, stD, reduceEqDiff, ↓reduceIte, p5])
    clear k1
    have hSS : Same S SB := hST.trans (hSB.same hS (Nat.le_trans hS02.1 hb))
    have hblkB : SB.h.get bq = some (.cells (cells32 qs) false 0) := by rw [hSB.2 _ (by omega) (by omega)]; exact hblk
    have hqL : LimbIs SB (.sl bq 0 (u.length - v.length + 1) (u.length - v.length + 1) false) qs := limbs_own hblkB (by have := hSB.1; omega) (by omega) (Nat.le_refl _)
    try simp only [↓stU, stD, reduceEqDiff, ↓reduceIte]
    refine wsr ?_
    simp only [↓stU, stD, reduceEqDiff, ↓reduceIte, z4, z5]
    refine wpo_call ?_
    simp only [↓stU, stD, reduceEqDiff, ↓reduceIte]
    refine wpf_mono (xtrim_spec H hqL hsq (by omega)) ?_
    rintro q1 SC ⟨hq, hSC⟩
    rw [hSC]
    try simp only [↓stU, stD, reduceEqDiff, ↓reduceIte, z5]
    refine wpo_call ?_
    simp only [↓stU, stD, reduceEqDiff, ↓reduceIte, z5]
    refine wpf_mono (xtrim_spec H hds hsds (by omega)) ?_
    rintro r1 SD ⟨hr1, hSD⟩
    rw [hSD]
    try simp only [↓stU, stD, reduceEqDiff, ↓reduceIte]
    refine wpc_ret ?_
    simp only [↓stU, stD, reduceEqDiff, ↓reduceIte]
    rw [hvds, hrR, hq2] at hr1
    rw [hq1] at hq
    exact ⟨_, _, rfl, hq, hr1, hSS⟩
end Go.Ev.Gl

namespace Go.Ev.Gl
variable {fns : T AFn}

/-! ## The reference's greatest common divisor and lowest terms -/
def XComI (S : St) (K g : Nat) (k : Nat) (A : Act') (S' : St) : Prop :=
  A.inr = false ∧ ∃ (a b : AV) (x : Nat), tmpV 0 A.F = a ∧ tmpV 1 A.F = b ∧ NatIs S' a x ∧ NatIs S' b k ∧ x < B ^ K ∧ k < B ^ K ∧ Nat.gcd x k = g ∧ Same S S'

theorem xcommon_spec {S : St} {a b : AV} {x y K : Nat} (H : Has fns) (ha : NatIs S a x) (hb : NatIs S b y) (hx : x < B ^ K) (hy : y < B ^ K) (hK : K ≤ 19000) : wpf fns (.fn 65 [] []) [a, b] S fun r S' => NatIs S' r (Nat.gcd x y) ∧ Same S S' := by
  refine wpf_fn H.f65 (by simp) ?_
  simp only [↓stU, stD, reduceEqDiff, ↓reduceIte]
  refine wsr ?_
  simp only [↓stU, stD, reduceEqDiff, ↓reduceIte]
  refine wpc_seq (wpc_block (wpc_loop (XComI S K (Nat.gcd x y)) ?_ y _ _ ⟨rfl, a, b, x, by simp only [↓stU, stD, reduceEqDiff, ↓reduceIte], by simp only [↓stU, stD, reduceEqDiff, ↓reduceIte], ha, hb, hx, hy, rfl, Same.refl _⟩))
  rintro k ⟨F, inr⟩ S' ⟨q0, a, b, x, p0, p1, ha, hb, hx, hk, hg, hS⟩
  simp only at q0 p0 p1
  subst q0
  obtain ⟨n, hn, hn0⟩ := lenpos hb
  refine wss ?_
  simp only [↓stU, stD, reduceEqDiff, ↓reduceIte, p1, hn]
  by_cases hk0 : k = 0
  · refine wpc_non (by simp only [↓stU, stD, reduceEqDiff, ↓reduceIte, decide_eq_false (show ¬ (0 : Int) < (n : Int) by omega)]) (wpc_exit ?_)
    simp only [↓stU, stD, reduceEqDiff, ↓reduceIte]
    refine wsr ?_
    simp only [↓stU, stD, reduceEqDiff, ↓reduceIte, p0]
    refine wpc_ret ?_
    simp only [↓stU, stD, reduceEqDiff, ↓reduceIte]
    rw [hk0, Nat.gcd_zero_right] at hg
    rw [← hg]
    exact ⟨ha, hS⟩
  · refine wpc_yes (by simp only [↓stU, stD, reduceEqDiff, ↓reduceIte, decide_eq_true (show (0 : Int) < (n : Int) by omega)]) (wpc_skip ?_)
    simp only [↓stU, stD, reduceEqDiff, ↓reduceIte]
    refine wpc_block (wpc_seq (wpc_reg ?_))
    simp only [↓stU, stD, reduceEqDiff, ↓reduceIte, p0, p1]
    refine wpo_call ?_
    simp only [↓stU, stD, reduceEqDiff, ↓reduceIte]
    refine wpf_mono (xover_spec H ha hb hx hK (by omega)) ?_
    rintro _ S2 ⟨q, u, rfl, hq, hu, hS2⟩
    simp only [↓stU, stD, reduceEqDiff, ↓reduceIte, ex0, ex1]
    refine wpc_reg ?_
    simp only [↓stU, stD, reduceEqDiff, ↓reduceIte, p1]
    refine ⟨x % k, Nat.mod_lt _ (by omega), rfl, b, u, k, by simp only [↓stU, stD, reduceEqDiff, ↓reduceIte], by simp only [↓stU, stD, reduceEqDiff, ↓reduceIte], hb.same hS2, hu, hk, Nat.lt_trans (Nat.mod_lt _ (by omega)) hk, ?_, hS.trans hS2⟩
    rw [← hg, Nat.gcd_comm, ← Nat.gcd_rec, Nat.gcd_comm]

end Go.Ev.Gl

namespace Go.Ev.Gl
variable {fns : T AFn}

/-! ## The reference's rational numbers -/
theorem norm_is_one {l : List Nat} (h : Norm l) : (l.length = 1 ∧ l[0]?.getD 0 = 1) ↔ val l = 1 := by
  rw [norm_val_one h]
  constructor
  · rintro ⟨h1, h2⟩
    obtain ⟨x, rfl⟩ := List.length_eq_one_iff.1 h1
    simp at h2
    rw [h2]
  · rintro rfl
    exact ⟨rfl, rfl⟩

theorem xparts_spec {S : St} {a b : AV} {l m : List Nat} (H : Has fns) (ha : LimbIs S a l) (hb : LimbIs S b m) : wpf fns (.fn 64 [] []) [a, b] S fun r S' => r = .int .i64 (partsE l m) ∧ S' = S := by
  refine wpf_fn H.f64 (by simp) ?_
  simp only [↓stU, stD, reduceEqDiff, ↓reduceIte]
  refine wsr ?_
  simp only [↓stU, stD, reduceEqDiff, ↓reduceIte]
  refine wss ?_
  simp only [↓stU, stD, reduceEqDiff, ↓reduceIte]
  refine wpo_call ?_
  simp only [↓stU, stD, reduceEqDiff, ↓reduceIte]
  refine wpf_mono (xcheck_spec H ha) ?_
  rintro _ S1 ⟨rfl, rfl⟩
  try simp only [↓stU, stD, reduceEqDiff, ↓reduceIte]
  unfold partsE
  refine wsr ?_
  simp only [↓stU, stD, reduceEqDiff, ↓reduceIte]
  by_cases h1 : chk l = 0
  rotate_left
  · refine wpc_yes (by simp only [↓stU, stD, reduceEqDiff, ↓reduceIte, decide_eq_true (show chk l ≠ 0 from h1)]) ?_
    refine wsr ?_
    simp only [↓stU, stD, reduceEqDiff, ↓reduceIte]
    refine wpc_ret ?_
    simp only [↓stU, stD, reduceEqDiff, ↓reduceIte, if_pos h1]
  refine wpc_non (by simp only [↓stU, stD, reduceEqDiff, ↓reduceIte, decide_eq_false (show ¬ chk l ≠ 0 from fun h => h h1)]) (wpc_skip ?_)
  simp only [↓stU, stD, reduceEqDiff, ↓reduceIte]
  refine wss ?_
  simp only [↓stU, stD, reduceEqDiff, ↓reduceIte]
  refine wpo_call ?_
  simp only [↓stU, stD, reduceEqDiff, ↓reduceIte]
  refine wpf_mono (xcheck_spec H hb) ?_
  rintro _ S1 ⟨rfl, rfl⟩
  try simp only [↓stU, stD, reduceEqDiff, ↓reduceIte]
  refine wsr ?_
  simp only [↓stU, stD, reduceEqDiff, ↓reduceIte]
  by_cases h2 : chk m = 0
  rotate_left
  · refine wpc_yes (by simp only [↓stU, stD, reduceEqDiff, ↓reduceIte, decide_eq_true (show chk m ≠ 0 from h2)]) ?_
    refine wsr ?_
    simp only [↓stU, stD, reduceEqDiff, ↓reduceIte]
    refine wpc_ret ?_
    simp only [↓stU, stD, reduceEqDiff, ↓reduceIte, if_neg (show ¬ chk l ≠ 0 from fun h => h h1), if_pos h2]
  refine wpc_non (by simp only [↓stU, stD, reduceEqDiff, ↓reduceIte, decide_eq_false (show ¬ chk m ≠ 0 from fun h => h h2)]) (wpc_skip ?_)
  simp only [↓stU, stD, reduceEqDiff, ↓reduceIte]
  rw [if_neg (show ¬ chk l ≠ 0 from fun h => h h1), if_neg (show ¬ chk m ≠ 0 from fun h => h h2)]
  refine wss ?_
  simp only [↓stU, stD, reduceEqDiff, ↓reduceIte, hb.len]
  by_cases h3 : m = []
  · refine wpc_yes (by simp only [↓stU, stD, reduceEqDiff, ↓reduceIte, decide_eq_true (show ((m.length : Nat) : Int) = 0 by rw [h3]; rfl)]) ?_
    refine wsr ?_
    simp only [↓stU, stD, reduceEqDiff, ↓reduceIte]
    refine wpc_ret ?_
    simp only [↓stU, stD, reduceEqDiff, ↓reduceIte, if_pos h3]
  have hp := List.length_pos_iff.2 h3
  refine wpc_non (by simp only [↓stU, stD, reduceEqDiff, ↓reduceIte, decide_eq_false (show ¬ ((m.length : Nat) : Int) = 0 by omega)]) (wpc_skip ?_)
  simp only [↓stU, stD, reduceEqDiff, ↓reduceIte]
  refine wsr ?_
  simp only [↓stU, stD, reduceEqDiff, ↓reduceIte]
  refine wpc_ret ?_
  simp only [↓stU, stD, reduceEqDiff, ↓reduceIte, if_neg h3]

theorem rxcheck_spec {S : St} {v : AV} {s : Bool} {l m : List Nat} (H : Has fns) (h : RawIs S v s l m) : wpf fns (.fn 43 [] []) [v] S fun r S' => r = .int .i64 (rchk s l m) ∧ Same S S' := by
  obtain ⟨nv, dv, rfl, h1, h2⟩ := h
  refine wpf_fn H.f43 (by simp) ?_
  simp only [↓stU, stD, reduceEqDiff, ↓reduceIte]
  refine wsr ?_
  refine wpo_box (by simp only [↓stU, stD, reduceEqDiff, ↓reduceIte, cells_agg]; rfl) ?_
  intro S1 s1 n1 c1
  simp only [↓stU, stD, reduceEqDiff, ↓reduceIte]
  refine wss ?_
  simp only [↓stU, stD, reduceEqDiff, ↓reduceIte, evQ_faddr, faddr_ptr, ld3_1 c1, ld3_2 c1]
  refine wpo_call ?_
  simp only [↓stU, stD, reduceEqDiff, ↓reduceIte]
  refine wpf_mono (xparts_spec H (h1.same s1) (h2.same s1)) ?_
  rintro _ S2 ⟨rfl, hS2⟩
  rw [hS2]
  try simp only [↓stU, stD, reduceEqDiff, ↓reduceIte]
  unfold rchk
  refine wsr ?_
  simp only [↓stU, stD, reduceEqDiff, ↓reduceIte]
  by_cases hp : partsE l m = 0
  rotate_left
  · refine wpc_yes (by simp only [↓stU, stD, reduceEqDiff, ↓reduceIte, decide_eq_true (show partsE l m ≠ 0 from hp)]) ?_
    refine wsr ?_
    simp only [↓stU, stD, reduceEqDiff, ↓reduceIte]
    refine wpc_ret ?_
    simp only [↓stU, stD, reduceEqDiff, ↓reduceIte, if_pos hp]
    exact s1
  refine wpc_non (by simp only [↓stU, stD, reduceEqDiff, ↓reduceIte, decide_eq_false (show ¬ partsE l m ≠ 0 from fun h => h hp)]) (wpc_skip ?_)
  simp only [↓stU, stD, reduceEqDiff, ↓reduceIte]
  rw [if_neg (show ¬ partsE l m ≠ 0 from fun h => h hp)]
  obtain ⟨⟨a1, a2⟩, ⟨b1, b2⟩, b3⟩ := partsE_zero.1 hp
  have hA : NatIs S1 nv (val l) := ⟨l, h1.same s1, a2, rfl⟩
  have hD : NatIs S1 dv (val m) := ⟨m, h2.same s1, b2, rfl⟩
  have hxl : val l < B ^ 1024 := (norm_len_iff a2 1024).1 a1
  have hyl : val m < B ^ 1024 := (norm_len_iff b2 1024).1 b1
  refine wpc_seq (wpc_seq (wpc_mono (Q := fun o A' S' => o = .normal ∧ A'.inr = false ∧ Same S1 S' ∧ ∃ b, tmpV 38 A'.F = .bool b ∧ (b = true ↔ (l = [] ∧ s = true) ∨ Nat.gcd (val l) (val m) ≠ 1)) ?_ ?_))
  · refine wpc_reg ?_
    simp only [↓stU, stD, reduceEqDiff, ↓reduceIte, evQ_faddr, faddr_ptr, ld3_1 c1, ld3_2 c1]
    refine wpo_call ?_
    simp only [↓stU, stD, reduceEqDiff, ↓reduceIte]
    refine wpf_mono (xcommon_spec H hA hD hxl hyl (by decide)) ?_
    rintro gv S3 ⟨⟨gl, g1, g2, g3⟩, s3⟩
    have c3 : S3.h.get S.nx = some (.cells [.bool s, nv, dv] false 0) := by rw [s3.2 _ (by omega)]; exact c1
    have hone := norm_is_one g2
    rw [g3] at hone
    by_cases hl1 : gl.length = 1
    · simp only [↓stU, stD, reduceEqDiff, ↓reduceIte, evQ_faddr, faddr_ptr, ld3_0 c3, ld3_1 c3, ld3_2 c3, g1.len, decide_eq_false (show ¬ ((gl.length : Nat) : Int) ≠ 1 by omega)]
      refine wpo_call ?_
      simp only [↓stU, stD, reduceEqDiff, ↓reduceIte]
      refine wpf_mono (xcommon_spec H (hA.same s3) (hD.same s3) hxl hyl (by decide)) ?_
      rintro gv2 S4 ⟨⟨gl2, k1, k2, k3⟩, s4⟩
      have : gl2 = gl := norm_inj k2 g2 (by rw [k3, g3])
      subst this
      have c4 : S4.h.get S.nx = some (.cells [.bool s, nv, dv] false 0) := by have := s3.1; rw [s4.2 _ (by omega)]; exact c3
      have hia := k1.iaddr (i := 0) (by omega)
      have hld := k1.ld (i := 0) (by omega)
      rw [List.getD_eq_getElem?_getD] at hld
      by_cases hg1 : gl2[0]?.getD 0 = 1
      · rw [hg1] at hld
        have hgcd := hone.1 ⟨hl1, hg1⟩
        cases s with
        | false =>
          simp only [↓stU, stD, reduceEqDiff, ↓reduceIte, evQ_faddr, faddr_ptr, ld3_0 c4, ld3_1 c4, ld3_2 c4, nat0, hia, hld, show decide ((((1 : Nat) : Int)) ≠ 1) = false from rfl]
          exact ⟨s3.trans s4, false, rfl, by simp [hgcd]⟩
        | true =>
          have hl := (h1.same s1).len
          simp only [↓stU, stD, reduceEqDiff, ↓reduceIte, evQ_faddr, faddr_ptr, ld3_0 c4, ld3_1 c4, ld3_2 c4, nat0, hia, hld, show decide ((((1 : Nat) : Int)) ≠ 1) = false from rfl, h1.len]
          refine ⟨s3.trans s4, decide (((l.length : Nat) : Int) = 0), rfl, ?_⟩
          simp [hgcd]
      · have hgcd : Nat.gcd (val l) (val m) ≠ 1 := fun e => hg1 (hone.2 e).2
        simp only [↓stU, stD, reduceEqDiff, ↓reduceIte, evQ_faddr, faddr_ptr, ld3_0 c4, ld3_1 c4, ld3_2 c4, nat0, hia, hld, decide_eq_true (show ((gl2[0]?.getD 0 : Nat) : Int) ≠ 1 by omega)]
        exact ⟨s3.trans s4, true, by simp only [↓stU, stD, reduceEqDiff, ↓reduceIte], by simp [hgcd]⟩
    · have hgcd : Nat.gcd (val l) (val m) ≠ 1 := fun e => hl1 (hone.2 e).1
      simp only [↓stU, stD, reduceEqDiff, ↓reduceIte, evQ_faddr, faddr_ptr, ld3_0 c3, ld3_1 c3, ld3_2 c3, g1.len, decide_eq_true (show ((gl.length : Nat) : Int) ≠ 1 by omega)]
      exact ⟨s3, true, by simp only [↓stU, stD, reduceEqDiff, ↓reduceIte], by simp [hgcd]⟩
  rintro o ⟨F, inr⟩ S3 ⟨rfl, q0, s3, b, p38, hb⟩
  simp only at q0 p38
  subst q0
  try simp only [↓stU, stD, reduceEqDiff, ↓reduceIte]
  have s13 := s1.trans s3
  cases b with
  | true =>
    refine wpc_yes (by simp only [↓stU, stD, reduceEqDiff, ↓reduceIte, p38]) ?_
    refine wsr ?_
    simp only [↓stU, stD, reduceEqDiff, ↓reduceIte]
    refine wpc_ret ?_
    simp only [↓stU, stD, reduceEqDiff, ↓reduceIte, if_pos (hb.1 rfl)]
    exact s13
  | false =>
    refine wpc_non (by simp only [↓stU, stD, reduceEqDiff, ↓reduceIte, p38]) (wpc_skip ?_)
    simp only [↓stU, stD, reduceEqDiff, ↓reduceIte]
    refine wsr ?_
    simp only [↓stU, stD, reduceEqDiff, ↓reduceIte]
    refine wpc_ret ?_
    simp only [↓stU, stD, reduceEqDiff, ↓reduceIte, if_neg (show ¬ ((l = [] ∧ s = true) ∨ Nat.gcd (val l) (val m) ≠ 1) from fun h => by have := hb.2 h; cases this)]
    exact s13

end Go.Ev.Gl

namespace Go.Ev.Gl
variable {fns : T AFn}

/-! ## The reference's rational numbers: sums, products, order -/
end Go.Ev.Gl

namespace Go.Ev.Gl
variable {fns : T AFn}

end Go.Ev.Gl

namespace Go.Ev.Gl
variable {fns : T AFn}

/-! ## Operations on two numbers that are looked at first -/
end Go.Ev.Gl

namespace Go.Ev.Gl
variable {fns : T AFn}

/-- two numbers that are handed over: the error that they have, and what they are if there is none -/
structure Pair (S : St) (a b : AV) (E : Int) (p q : Rat) : Prop where
  raw : ∃ s l m t l2 m2, RawIs S a s l m ∧ RawIs S b t l2 m2 ∧ E = if rchk s l m ≠ 0 then rchk s l m else rchk t l2 m2
  ok : E = 0 → RatIs S a p ∧ RatIs S b q ∧ Bnd 30 p ∧ Bnd 30 q
theorem Pair.same {S S' : St} {a b : AV} {E : Int} {p q : Rat} (h : Pair S a b E p q) (hs : Same S S') : Pair S' a b E p q := by
  obtain ⟨⟨s, l, m, t, l2, m2, h1, h2, h3⟩, h4⟩ := h
  exact ⟨⟨s, l, m, t, l2, m2, h1.same hs, h2.same hs, h3⟩, fun hE => ⟨(h4 hE).1.same hs, (h4 hE).2.1.same hs, (h4 hE).2.2⟩⟩
theorem Pair.cells {S : St} {a b : AV} {E : Int} {p q : Rat} (h : Pair S a b E p q) : ∃ a0 a1 a2 b0 b1 b2, a = .agg [a0, a1, a2] ∧ b = .agg [b0, b1, b2] := by
  obtain ⟨⟨s, l, m, t, l2, m2, ⟨n1, d1, rfl, _⟩, ⟨n2, d2, rfl, _⟩, _⟩, _⟩ := h
  exact ⟨_, _, _, _, _, _, rfl, rfl⟩
section
variable {S : St} {a b : AV} {E : Int} {p q : Rat}

/-! ### the reference's -/
end
end Go.Ev.Gl

namespace Go.Ev.Gl
variable {fns : T AFn}

/-! ## Comparing; copies; equality -/
section
variable {S : St} {a b : AV} {E : Int} {p q : Rat}
end

/-- a number or none, as cells -/
def OptIs (S : St) (cs : List AV) (o : Option Rat) : Prop := match o with
  | some q => RatIs S (.agg cs) q
  | none => cs = [.bool false, .nilsl, .nilsl]
theorem OptIs.same {S S' : St} {cs : List AV} {o : Option Rat} (h : OptIs S cs o) (hs : Same S S') : OptIs S' cs o := by
  cases o with
  | none => exact h
  | some q => exact RatIs.same h hs
theorem OptIs.st {S S' : St} {cs0 : List AV} {o : Option Rat} {b : Nat} {cs cs' : List AV} {e e' : Bool} {s s' : Nat} (h : OptIs S cs0 o) (hb : S.h.get b = some (.cells cs e s)) (hn : noInt cs = true) (hs : SameBut b S S') (hb' : S'.h.get b = some (.cells cs' e' s')) : OptIs S' cs0 o := by
  cases o with
  | none => exact h
  | some q => exact RatIs.st h hb hn hs hb'
theorem Fresh.alloc {S : St} (h : Fresh S) (bl : AB) : Fresh ⟨S.h.set S.nx (some bl), S.nx + 1⟩ := fun b hb => by
  simp only at hb ⊢
  rw [T.get_set, if_neg (by omega)]
  exact h b (by omega)

end Go.Ev.Gl
