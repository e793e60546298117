/- Contracts of the program's functions on natural numbers in limbs (1). -/
import Derived.Test.YtffbfglbdghpaaaGreatDoorGl0
import Derived.Test.YtffbfglbdghpaaaGreatDoorIr0
import Derived.Test.YtffbfglbdghpaaaGreatDoorIr1
import Derived.Test.YtffbfglbdghpaaaGreatDoorIr2
import Derived.Test.YtffbfglbdghpaaaGreatDoorIr3
open Nat (reduceEqDiff reduceAdd)
set_option maxHeartbeats 4000000
set_option linter.unusedSimpArgs false
set_option linter.unusedVariables false
namespace Go.Ev.Gl
/-- the table holds these functions -/
structure Has (fns : T AFn) : Prop where
  f3 : fns.get 3 = some a3
  f5 : fns.get 5 = some a5
  f6 : fns.get 6 = some a6
  f7 : fns.get 7 = some a7
  f8 : fns.get 8 = some a8
  f9 : fns.get 9 = some a9
  f10 : fns.get 10 = some a10
  f11 : fns.get 11 = some a11
  f18 : fns.get 18 = some a18
  f19 : fns.get 19 = some a19
  f20 : fns.get 20 = some a20
  f21 : fns.get 21 = some a21
  f22 : fns.get 22 = some a22
  f23 : fns.get 23 = some a23
  f24 : fns.get 24 = some a24
  f25 : fns.get 25 = some a25
  f26 : fns.get 26 = some a26
  f39 : fns.get 39 = some a39
  f40 : fns.get 40 = some a40
  f41 : fns.get 41 = some a41
  f42 : fns.get 42 = some a42
  f43 : fns.get 43 = some a43
  f59 : fns.get 59 = some a59
  f60 : fns.get 60 = some a60
  f61 : fns.get 61 = some a61
  f62 : fns.get 62 = some a62
  f63 : fns.get 63 = some a63
  f64 : fns.get 64 = some a64
  f65 : fns.get 65 = some a65
  f78 : fns.get 78 = some a78
  f79 : fns.get 79 = some a79
  f80 : fns.get 80 = some a80
  f81 : fns.get 81 = some a81
  f82 : fns.get 82 = some a82
  f83 : fns.get 83 = some a83
  f84 : fns.get 84 = some a84
  f85 : fns.get 85 = some a85
  f86 : fns.get 86 = some a86
  f87 : fns.get 87 = some a87
  f88 : fns.get 88 = some a88
  f112 : fns.get 112 = some a112
  f113 : fns.get 113 = some a113
  f114 : fns.get 114 = some a114
  f115 : fns.get 115 = some a115
  f116 : fns.get 116 = some a116
  f117 : fns.get 117 = some a117
  f118 : fns.get 118 = some a118
  f119 : fns.get 119 = some a119
  f120 : fns.get 120 = some a120
  f121 : fns.get 121 = some a121
  f122 : fns.get 122 = some a122
end Go.Ev.Gl
namespace Go.Ev.Gl
variable {fns : T AFn}

theorem isOne {S : St} {v : AV} {l : List Nat} (hfn : fns.get 62 = some a62) (h : LimbIs S v l) : wpf fns (.fn 62 [] []) [v] S fun r S' => r = .bool (decide (l = [1])) ∧ S' = S := by
  refine wpf_fn hfn (by simp) ?_
  simp
  refine wsr ?_
  simp
  refine wsr ?_
  by_cases h1 : l.length = 1
  · have hlt : 0 < l.length := by omega
    simp [h.len, h1, h.iaddr hlt, h.ld hlt]
    refine wpc_ret ?_
    simp
    obtain ⟨x, rfl⟩ := List.length_eq_one_iff.1 h1
    simp
    constructor <;> intro h <;> omega
  · have h2 : ¬ ((l.length : Int) = 1) := by omega
    simp [h.len, h2]
    refine wpc_ret ?_
    have h3 : l ≠ [1] := fun e => by subst e; simp at h1
    simp [h3]

/-- zeros at the end are taken away -/
theorem trim_spec {S : St} {v : AV} {l : List Nat} (hfn : fns.get 122 = some a122) (h : LimbIs S v l) (hs : Small l) (hlen : l.length < 1000000000000) : wpf fns (.fn 122 [] []) [v] S fun r S' => NatIs S r (val l) ∧ S' = S := by
  refine wpf_fn hfn (by simp) ?_
  simp
  refine wsr ?_
  simp
  refine wpc_seq (wpc_block (wpc_loop (fun k A S' => S' = S ∧ A.inr = false ∧ ∃ u m, tmpV 0 A.F = u ∧ LimbIs S u m ∧ m.length = k ∧ Small m ∧ val m = val l ∧ m.length ≤ l.length) ?_ l.length _ _ ⟨rfl, rfl, v, l, by simp, h, rfl, hs, rfl, Nat.le_refl _⟩))
  rintro k ⟨F, inr⟩ S' ⟨rfl, rfl, u, m, h0, hu, hk, hsm, hv, hle⟩
  simp only at h0
  refine wss ?_
  by_cases hm : m = []
  · subst hm
    simp [h0, hu.len]
    refine wpc_non (by simp) (wpc_exit ?_)
    simp
    refine wsr ?_
    simp [h0]
    refine wpc_ret ?_
    simp
    exact ⟨[], hu, norm_nil, by rw [← hv]⟩
  · obtain ⟨m', x, rfl⟩ : ∃ m' x, m = m' ++ [x] := ⟨m.dropLast, m.getLast hm, (List.dropLast_concat_getLast hm).symm⟩
    have hL : (m' ++ [x]).length = m'.length + 1 := by simp
    have hlt : m'.length < (m' ++ [x]).length := by omega
    have hpos : (0 : Int) < (m'.length : Int) + 1 := by omega
    have e1 : IntKind.i64.wrap (m'.length : Int) = (m'.length : Int) := wrap_i64 (by omega) (by rw [hL] at hle; omega)
    have e2 : (m' ++ [x]).getD m'.length 0 = x := by simp
    have hlen' := hu.len
    rw [hL] at hlen'
    have hiad := hu.iaddr hlt
    have hld := hu.ld hlt
    rw [e2] at hld
    simp [h0, hlen', hpos, e1, hiad, hld]
    refine wpc_if (t := decide (x = 0)) (by simp) (fun hx => wpc_skip ?_) (fun hx => wpc_exit ?_)
    · have hx : x = 0 := by simpa using hx
      subst hx
      simp
      refine wpc_block (wpc_reg ?_)
      have hh := hu.head hlt
      rw [List.take_left' rfl] at hh
      simp [h0, hlen', e1, hu.slc hlt]
      refine ⟨m'.length, by omega, m', hh, rfl, (Small.append.1 hsm).1, ?_, by omega⟩
      rw [← hv, val_snoc, Nat.mul_zero, Nat.add_zero]
    · have hx : x ≠ 0 := by simpa using hx
      simp
      refine wsr ?_
      simp [h0]
      refine wpc_ret ?_
      simp
      exact ⟨m' ++ [x], hu, ⟨hsm, by simp [hx]⟩, hv⟩
end Go.Ev.Gl

namespace Go.Ev.Gl
variable {fns : T AFn}

theorem split_at {l : List Nat} {j : Nat} (h : j < l.length) : l = l.take j ++ (l.getD j 0 :: l.drop (j + 1)) := by
  have : l.getD j 0 = l[j] := by simp [List.getD_eq_getElem?_getD, h]
  rw [this, List.getElem_cons_drop, List.take_append_drop]

theorem val_lt_at {l m : List Nat} {j : Nat} (hl : Small l) (hj : j < l.length) (hlen : l.length = m.length) (hd : l.drop (j + 1) = m.drop (j + 1)) (h : l.getD j 0 < m.getD j 0) : val l < val m := by
  rw [split_at hj, split_at (l := m) (j := j) (by omega), val_append, val_append, val_cons, val_cons, hd]
  have h1 := val_lt (hl.take j)
  have e1 : (l.take j).length = j := by simp; omega
  have e2 : (m.take j).length = j := by simp; omega
  rw [e1, e2]
  rw [e1] at h1
  generalize l.getD j 0 = x at h
  generalize m.getD j 0 = y at h
  generalize val (l.take j) = p at h1
  generalize val (m.take j) = q
  generalize val (m.drop (j + 1)) = r
  generalize B ^ j = b at h1
  have h2 : b * (x + 1 + B * r) ≤ b * (y + B * r) := Nat.mul_le_mul_left _ (by omega)
  have h3 : b * (x + 1 + B * r) = b * (x + B * r) + b := by rw [show x + 1 + B * r = (x + B * r) + 1 by omega, Nat.mul_add, Nat.mul_one]
  omega

def cmpI (x y : Nat) : Int := if x < y then -1 else if x = y then 0 else 1

theorem cmp_spec {S : St} {a b : AV} {x y : Nat} (hfn : fns.get 82 = some a82) (ha : NatIs S a x) (hb : NatIs S b y) (hx : Fits x) : wpf fns (.fn 82 [] []) [a, b] S fun r S' => r = .int .i64 (cmpI x y) ∧ Same S S' := by
  obtain ⟨l, ha, hl, rfl⟩ := ha
  obtain ⟨m, hb, hm, rfl⟩ := hb
  have hlen := Fits.len hl hx
  refine wpf_fn hfn (by simp) ?_
  simp
  refine wsr ?_
  simp
  refine wss ?_
  simp [ha.len, hb.len]
  refine wpc_if (t := decide (l.length ≠ m.length)) (by simp; omega) (fun h => ?_) (fun h => ?_)
  · have hne : l.length ≠ m.length := by simpa using h
    refine wss ?_
    simp [ha.len, hb.len]
    refine wpc_if (t := decide (l.length < m.length)) (by simp) (fun h => ?_) (fun h => wpc_skip ?_)
    · have hlt : l.length < m.length := by simpa using h
      refine wsr ?_
      simp
      refine wpc_ret ?_
      have := val_le_of_len hl.1 hm hlt
      simp [cmpI, this, Same.refl]
    · have hlt : ¬ l.length < m.length := by simpa using h
      simp
      refine wsr ?_
      simp
      refine wpc_ret ?_
      have := val_le_of_len hm.1 hl (by omega)
      simp [cmpI, show ¬ val l < val m by omega, show ¬ val l = val m by omega, Same.refl]
  · have heq : l.length = m.length := by simpa using h
    refine wpc_skip ?_
    simp
    refine wss ?_
    simp [ha.len]
    refine wpc_block (wpc_loop (fun k A S' => Same S S' ∧ A.inr = false ∧ tmpV 0 A.F = a ∧ tmpV 1 A.F = b ∧ tmpV 5 A.F = .int .i64 ((k : Int) - 1) ∧ k ≤ l.length ∧ l.drop k = m.drop k) ?_ l.length _ _ ⟨Same.refl S, rfl, by simp, by simp, by simp; exact wrap_i64 (by omega) (by omega), Nat.le_refl _, by rw [List.drop_length, heq, List.drop_length]⟩)
    rintro k ⟨F, inr⟩ S' ⟨hS, rfl, h0, h1, h5, hk, hd⟩
    simp only at h0 h1 h5
    have ha' := ha.same hS
    have hb' := hb.same hS
    refine wss ?_
    cases k with
    | zero =>
      simp [h5]
      refine wpc_non (by simp) (wpc_exit ?_)
      simp
      refine wsr ?_
      simp
      refine wpc_ret ?_
      have : l = m := by simpa using hd
      simp [cmpI, this, hS]
    | succ j =>
      have hj : j < l.length := by omega
      have hj' : j < m.length := by omega
      have e5 : tmpV 5 F = .int .i64 (j : Int) := by rw [h5]; congr 1; omega
      simp [e5]
      refine wpc_yes (by simp) (wpc_skip ?_)
      simp
      refine wpc_seq (wpc_block (wpc_seq (wpc_seq (wpc_drw ?_))))
      simp [h0, h1, e5, ha'.iaddr hj, hb'.iaddr hj', ha'.ld hj, hb'.ld hj']
      have hS1 : Same S ⟨S'.h, S'.nx + 9⟩ := ⟨Nat.le_trans hS.1 (by simp), hS.2⟩
      refine wpc_if (t := decide (l.getD j 0 < m.getD j 0)) (by simp) (fun h => ?_) (fun h => wpc_skip ?_)
      · have hlt : l.getD j 0 < m.getD j 0 := by simpa using h
        refine wsr ?_
        simp
        refine wpc_ret ?_
        have := val_lt_at hl.1 hj heq hd hlt
        simp [cmpI, this, hS1]
      · have hge : ¬ l.getD j 0 < m.getD j 0 := by simpa using h
        have ha2 := ha.same hS1
        have hb2 := hb.same hS1
        have la2 := ha2.ld hj
        have lb2 := hb2.ld hj'
        simp only at la2 lb2
        simp
        refine wpc_seq (wpc_drw ?_)
        simp [h0, h1, e5, ha2.iaddr hj, hb2.iaddr hj', la2, lb2]
        have hS2 : Same S ⟨S'.h, S'.nx + 9 + 9⟩ := ⟨Nat.le_trans hS.1 (by simp; omega), hS.2⟩
        refine wpc_if (t := decide (m.getD j 0 < l.getD j 0)) (by simp) (fun h => ?_) (fun h => wpc_skip ?_)
        · have hlt : m.getD j 0 < l.getD j 0 := by simpa using h
          refine wsr ?_
          simp
          refine wpc_ret ?_
          have := val_lt_at hm.1 hj' heq.symm hd.symm hlt
          simp [cmpI, show ¬ val l < val m by omega, show ¬ val l = val m by omega, hS2]
        · have hge2 : ¬ m.getD j 0 < l.getD j 0 := by simpa using h
          simp
          refine wpc_reg ?_
          simp [e5]
          refine ⟨j, by omega, hS2, by simp [h0], by simp [h1], by exact wrap_i64 (by omega) (by omega), by omega, ?_⟩
          have e1 := split_at hj
          have e2 := split_at hj'
          have : l.getD j 0 = m.getD j 0 := by omega
          rw [List.drop_eq_getElem_cons hj, List.drop_eq_getElem_cons hj', hd]
          congr 1
          simpa [List.getD_eq_getElem?_getD, hj, hj'] using this
end Go.Ev.Gl

namespace Go.Ev.Gl
variable {fns : T AFn}

/-! ## A slice of one's own -/
def cells32 (l : List Nat) : List AV := l.map fun x => AV.int .u32 ((x : Nat) : Int)
theorem cells32_length (l : List Nat) : (cells32 l).length = l.length := by simp [cells32]
theorem repeatL_one {α : Type} (z : α) : ∀ n, repeatL [z] n = List.replicate n z
  | 0 => rfl
  | n + 1 => by rw [repeatL_succ, repeatL_one z n, List.replicate_succ]; rfl
theorem cells32_zeros (n : Nat) : repeatL [AV.int .u32 0] n = cells32 (List.replicate n 0) := by rw [repeatL_one]; simp [cells32]

theorem evA_mk {t s bytes : Nat} {z : List AV} {l c : Opd} {F : Fr} {id n : Nat} (hl : natOf (l.val F) = some n) (hc : natOf (c.val F) = some n) (h1 : n ≤ room) (h2 : bytes * n ≤ room) :
    evA (.mkSlice t s bytes z l c) F id = some (.sl id 0 n n false, .cells (repeatL z n) false 0) := by
  show (osel (natOf (l.val F)) fun l => osel (natOf (c.val F)) fun c => bsel (Nat.ble l c) (bsel (Nat.ble c room) (bsel (Nat.ble (bytes * c) room) (some (AV.sl id 0 l c false, AB.cells (repeatL z c) false 0)) none) none) none) = _
  rw [hl, osel_some, hc, osel_some, Nat.ble_eq_true_of_le (Nat.le_refl n), Nat.ble_eq_true_of_le h1, Nat.ble_eq_true_of_le h2]
  rfl

theorem limbs_own {S : St} {b n : Nat} {l : List Nat} {o o' : Bool} {sz cap : Nat} (h : S.h.get b = some (.cells (cells32 l) o sz)) (hb : b < S.nx) (hn : n = l.length) (hc : n ≤ cap) : LimbIs S (.sl b 0 n cap o') l := by
  subst hn
  refine .inr ⟨b, 0, cap, o', cells32 l, by simp, by simpa using hc, hb, by simp [cellsAt, h, cellsOfB], fun i x hx => ?_⟩
  rw [Nat.zero_add]
  rw [List.getElem?_map, Option.map_eq_some_iff] at hx
  obtain ⟨y, hy, rfl⟩ := hx
  simp [cells32, hy]

theorem set_zeros {d : List Nat} {n x : Nat} (h : d.length < n) : (d ++ List.replicate (n - d.length) 0).set d.length x = d ++ [x] ++ List.replicate (n - (d.length + 1)) 0 := by
  obtain ⟨k, hk⟩ : ∃ k, n - d.length = k + 1 := ⟨n - d.length - 1, by omega⟩
  rw [hk, show n - (d.length + 1) = k by omega, List.replicate_succ]
  simp [List.set_append]

/-! ## Sub -/
theorem val_take_succ {l : List Nat} {i : Nat} : val (l.take (i + 1)) = val (l.take i) + B ^ (min i l.length) * l.getD i 0 := by
  by_cases h : i < l.length
  · rw [List.take_add_one, List.getElem?_eq_getElem h, Option.toList_some, val_snoc]
    simp [List.getD_eq_getElem?_getD, h]
  · rw [List.take_of_length_le (by omega), List.take_of_length_le (by omega)]
    simp [List.getD_eq_getElem?_getD, show l.length ≤ i by omega]

theorem val_take_pad {l : List Nat} {i : Nat} : val (l.take (i + 1)) = val (l.take i) + B ^ i * l.getD i 0 := by
  rw [val_take_succ]
  by_cases h : i < l.length
  · rw [Nat.min_eq_left (by omega)]
  · simp [List.getD_eq_getElem?_getD, show l.length ≤ i by omega]
end Go.Ev.Gl

namespace Go.Ev.Gl
variable {fns : T AFn}

theorem iaddr_own {b off n cap i : Nat} {o : Bool} (hi : i < n) : iaddrV (.slice 1) (.sl b off n cap o) i = some (.ptr b (off + i * 1)) := by
  have : Nat.blt i n = true := Nat.ble_eq_true_of_le hi
  simp [iaddrV, this]

end Go.Ev.Gl

namespace Go.Ev.Gl
variable {fns : T AFn}

/-! ## append, one by one -/
theorem evX_app (t size bytes : Nat) (s x : Opd) (call : CallF) (F : Fr) (S : St) : evX (.app t size bytes s x) call F S = appendV bytes size (s.val F) (x.val F) S := rfl
theorem evA_one {t : Nat} {z : AV} {x : Opd} {F : Fr} {id : Nat} {k : IntKind} {n : Int} (hx : x.val F = .int k n) : evA (.bslice t 1 1 [z] [(0, x)]) F id = some (.sl id 0 1 1 false, .cells [.int k n] false 0) := by
  show (osel (fillP (repeatL [z] 1) [(0 * 1, 1, x.val F)]) fun cs => some (AV.sl id 0 1 1 false, AB.cells cs false 0)) = _
  rw [hx]
  rfl
attribute [simp] evX_app

theorem put32 {l : List Nat} {i w : Nat} (hi : i < l.length) : put (cells32 l) i [AV.int .u32 ((w : Nat) : Int)] = some (cells32 (l.set i w)) := by
  rw [put_eq, if_pos (by simp [cells32_length]; omega)]
  congr 1
  unfold cells32
  rw [← List.map_take, ← List.map_drop, List.set_eq_take_append_cons_drop, if_pos hi]
  simp

theorem limbs_part {S : St} {b cap : Nat} {d e : List Nat} {o o' : Bool} {sz : Nat} (h : S.h.get b = some (.cells (cells32 (d ++ e)) o sz)) (hb : b < S.nx) (hc : d.length ≤ cap) : LimbIs S (.sl b 0 d.length cap o') d := by
  refine .inr ⟨b, 0, cap, o', cells32 (d ++ e), by simp, by simpa using hc, hb, by simp [cellsAt, h, cellsOfB], fun i x hx => ?_⟩
  rw [Nat.zero_add]
  rw [List.getElem?_map, Option.map_eq_some_iff] at hx
  obtain ⟨y, hy, rfl⟩ := hx
  have hi := (List.getElem?_eq_some_iff.1 hy).1
  unfold cells32
  rw [List.getElem?_map, List.getElem?_append_left hi, hy]
  rfl

theorem norm_of_low {d : List Nat} (hs : Small d) (h : d = [] ∨ B ^ (d.length - 1) ≤ val d) : Norm d := by
  refine ⟨hs, fun e => ?_⟩
  rcases h with h | h
  · subst h; simp at e
  · have hne : d ≠ [] := by intro h; subst h; simp at e
    obtain ⟨m', x, rfl⟩ : ∃ m' x, d = m' ++ [x] := ⟨d.dropLast, d.getLast hne, (List.dropLast_concat_getLast hne).symm⟩
    simp at e
    subst e
    have := val_lt (Small.append.1 hs).1
    rw [val_snoc] at h
    simp at h
    omega

end Go.Ev.Gl

namespace Go.Ev.Gl
variable {fns : T AFn}

theorem st_at {S : St} {b p w : Nat} {l : List Nat} {o : Bool} {sz : Nat} (h : S.h.get b = some (.cells (cells32 l) o sz)) (hp : p < l.length) :
    xStV (.ptr b p) 1 [.int .u32 ((w : Nat) : Int)] S = some (.undef, ⟨S.h.set b (some (.cells (cells32 (l.set p w)) o sz)), S.nx⟩) := by
  simp only [xStV, storeN, h, osel_some, storeB, put32 hp]
  rfl
theorem ld_at {S : St} {b p : Nat} {l : List Nat} {o : Bool} {sz : Nat} (h : S.h.get b = some (.cells (cells32 l) o sz)) (hp : p < l.length) : qLdV (.ptr b p) false 1 S.h = some (.int .u32 ((l[p]?.getD 0 : Nat) : Int)) := by
  simp only [qLdV, loadV, bsel_false, load1, cellsAt, h, osel_some, cellsOfB, nth_eq, cells32, List.getElem?_map]
  rw [List.getElem?_eq_getElem hp]
  rfl
theorem bin_quo_u64 (e : EqT) {t d : Nat} (ht : t ≤ 18446744073709551615) (hd : 0 < d) : binV .quo e (.int .u64 ((t : Nat) : Int)) (.int .u64 ((d : Nat) : Int)) = some (.int .u64 ((t / d : Nat) : Int)) := by
  show intsBin .quo .u64 (Int.ofNat t) .u64 (Int.ofNat d) = _
  unfold intsBin
  rw [show isShift .quo = false from rfl, bsel_false, keq_refl, bsel_true]
  show bsel (Nat.beq d 0) none (some (AV.int .u64 (nat .u64 (t / d)))) = _
  have h0 : Nat.beq d 0 = false := by rw [Bool.eq_false_iff]; intro h; rw [Nat.beq_eq] at h; omega
  rw [h0, bsel_false, nat_eq]
  congr 2
  exact wrap_u64 (Int.natCast_nonneg _) (by have := Nat.div_le_self t d; show ((t / d : Nat) : Int) ≤ _; omega)
theorem bin_rem_u64 (e : EqT) {t d : Nat} (hd : 0 < d) : binV .rem e (.int .u64 ((t : Nat) : Int)) (.int .u64 ((d : Nat) : Int)) = some (.int .u64 ((t % d : Nat) : Int)) := by
  show intsBin .rem .u64 (Int.ofNat t) .u64 (Int.ofNat d) = _
  unfold intsBin
  rw [show isShift .rem = false from rfl, bsel_false, keq_refl, bsel_true]
  show bsel (Nat.beq d 0) none (some (AV.int .u64 (.ofNat (t % d)))) = _
  have h0 : Nat.beq d 0 = false := by rw [Bool.eq_false_iff]; intro h; rw [Nat.beq_eq] at h; omega
  rw [h0, bsel_false]
  rfl
theorem quoB (e : EqT) {t : Nat} (ht : t ≤ 18446744073709551615) : binV .quo e (.int .u64 ((t : Nat) : Int)) (.int .u64 1000000000) = some (.int .u64 ((t / B : Nat) : Int)) := bin_quo_u64 e ht B_pos
theorem remB (e : EqT) (t : Nat) : binV .rem e (.int .u64 ((t : Nat) : Int)) (.int .u64 1000000000) = some (.int .u64 ((t % B : Nat) : Int)) := bin_rem_u64 e B_pos

/-! ## Mul -/
theorem mul_step {vl vo vm c bi bj x y o w k k' : Nat} (hinv : vl + k * c = vo + bi * x * vm) (hc : c = bi * bj) (ht : x * y + o + k = w + k' * B) : (vl + c * w) + k' * (c * B) = (vo + c * o) + bi * x * (vm + bj * y) := by
  have h1 : c * (x * y + o + k) = c * (w + k' * B) := by rw [ht]
  rw [Nat.mul_add, Nat.mul_add, Nat.mul_add] at h1
  have h2 : c * (k' * B) = k' * (c * B) := by rw [← Nat.mul_assoc, Nat.mul_comm c k', Nat.mul_assoc]
  have h3 : bi * x * (vm + bj * y) = bi * x * vm + c * (x * y) := by
    rw [Nat.mul_add, hc]
    congr 1
    rw [Nat.mul_assoc, Nat.mul_assoc, ← Nat.mul_assoc x bj y, Nat.mul_comm x bj, Nat.mul_assoc]
  have h4 : c * k = k * c := Nat.mul_comm _ _
  rw [h3]
  omega
theorem carry_lt {x y o k : Nat} (hx : x < B) (hy : y < B) (ho : o < B) (hk : k < B) : (x * y + o + k) / B < B ∧ x * y ≤ 999999998000000001 := by
  have h1 : x * y ≤ 999999999 * 999999999 := Nat.mul_le_mul (by unfold B at hx; omega) (by unfold B at hy; omega)
  have hB : B = 1000000000 := rfl
  refine ⟨?_, by omega⟩
  rw [Nat.div_lt_iff_lt_mul B_pos, hB]
  omega
end Go.Ev.Gl

namespace Go.Ev.Gl
variable {fns : T AFn}

theorem B_cast : ((B : Nat) : Int) = 1000000000 := by simp [B]

end Go.Ev.Gl

namespace Go.Ev.Gl
variable {fns : T AFn}

theorem one_spec {S : St} (hfn : fns.get 81 = some a81) : wpf fns (.fn 81 [] []) [] S fun r S' => NatIs S' r 1 ∧ Same S S' := by
  refine wpf_fn hfn (by simp) ?_
  simp
  refine wsr ?_
  simp
  refine wsr ?_
  have he : ∀ F id, evA (.bslice 102 1 1 [AV.int .u32 0] [(0, .c (.int .u32 1))]) F id = some (.sl id 0 1 1 false, .cells [.int .u32 1] false 0) := fun F id => evA_one rfl
  simp [he]
  refine wpc_ret ?_
  simp
  refine ⟨⟨[1], ?_, norm_one, val_one⟩, Same.alloc S _⟩
  exact limbs_own (l := [1]) (o := false) (sz := 0) (by simp only; rw [T.get_set, if_pos rfl]; rfl) (by simp) rfl (Nat.le_refl _)

/-- a copy in new memory -/
theorem app_nil {S : St} {v : AV} {l : List Nat} {bytes : Nat} (h : LimbIs S v l) (h1 : l.length ≤ room) (h2 : l.length * bytes ≤ room) :
    ∃ r S', appendV bytes 1 .nilsl v S = some (r, S') ∧ LimbIs S' r l ∧ Same S S' := by
  rcases h with ⟨h0, h⟩ | ⟨b, off, cap, o, cs, rfl, hc, hb, hcs, hel⟩
  · simp at h0
    subst h0
    rcases h with rfl | rfl
    · exact ⟨.nilsl, S, rfl, .inl ⟨rfl, .inl rfl⟩, Same.refl S⟩
    · exact ⟨.nilsl, S, rfl, .inl ⟨rfl, .inl rfl⟩, Same.refl S⟩
  · rw [List.length_map] at hc
    by_cases hl : l = []
    · subst hl
      refine ⟨.nilsl, S, ?_, .inl ⟨rfl, .inl rfl⟩, Same.refl S⟩
      show (osel (some 0) fun n => osel (srcCells (.sl b off 0 cap o) S.h 1 n) fun new => appV .nilsl bytes 1 n new S) = _
      rw [osel_some]
      show (osel (osel (cellsAt S.h b) fun cs => cut cs off (0 * 1)) fun new => appV .nilsl bytes 1 0 new S) = _
      rw [hcs, osel_some]
      have : cut cs off (0 * 1) = some [] := by unfold cut; rw [takeL_eq, dropL_eq]; simp
      rw [this]
      rfl
    · have hcut : cut cs off (l.length * 1) = some (cells32 l) := by
        have hall : ∀ i, i < l.length → cs[off + i]? = some (.int .u32 ((l[i]?.getD 0 : Nat) : Int)) := fun i hi => by
          refine hel i _ ?_
          simp [hi]
        unfold cut
        rw [takeL_eq, dropL_eq, Nat.mul_one]
        have hlen : off + l.length ≤ cs.length := by
          have hp : 0 < l.length := List.length_pos_iff.2 hl
          have := hall (l.length - 1) (by omega)
          have := (List.getElem?_eq_some_iff.1 this).1
          omega
        rw [if_pos (by simp; omega)]
        congr 1
        apply List.ext_getElem?
        intro i
        rw [List.getElem?_take]
        split
        · rename_i hi
          rw [List.getElem?_drop, hall i hi]
          simp [cells32, hi]
        · rename_i hi
          symm
          rw [List.getElem?_eq_none (by rw [cells32_length]; omega)]
      refine ⟨.sl S.nx 0 l.length l.length true, ⟨S.h.set S.nx (some (.cells (cells32 l) true 1)), S.nx + 1⟩, ?_, ?_, Same.alloc S _⟩
      · show (osel (some (l.map Int.ofNat).length) fun n => osel (srcCells (.sl b off (l.map Int.ofNat).length cap o) S.h 1 n) fun new => appV .nilsl bytes 1 n new S) = _
        rw [osel_some, List.length_map]
        show (osel (osel (cellsAt S.h b) fun cs => cut cs off (l.length * 1)) fun new => appNil bytes 1 l.length new S) = _
        rw [hcs, osel_some, hcut, osel_some]
        unfold appNil
        have e0 : Nat.beq l.length 0 = false := by rw [Bool.eq_false_iff]; intro h; rw [Nat.beq_eq] at h; exact hl (List.length_eq_zero_iff.1 h)
        rw [e0, bsel_false, Nat.ble_eq_true_of_le h1, bsel_true, Nat.ble_eq_true_of_le h2, bsel_true]
        rfl
      · exact limbs_own (o := true) (sz := 1) (by simp only; rw [T.get_set, if_pos rfl]) (by simp) rfl (Nat.le_refl _)

theorem copy_spec {S : St} {v : AV} {l : List Nat} (hfn : fns.get 87 = some a87) (h : LimbIs S v l) (hlen : l.length ≤ 100000) : wpf fns (.fn 87 [] []) [v] S fun r S' => LimbIs S' r l ∧ Same S S' := by
  obtain ⟨r, S', happ, h1, h2⟩ := app_nil (bytes := 4) h (by unfold room; omega) (by unfold room; omega)
  refine wpf_fn hfn (by simp) ?_
  simp
  refine wsr ?_
  simp
  refine wsr ?_
  simp
  refine wpo_x (fun call => by simp; exact happ) ?_
  simp
  refine wpc_ret ?_
  simp
  exact ⟨h1, h2⟩
theorem copy_nat {S : St} {v : AV} {n : Nat} (hfn : fns.get 87 = some a87) (h : NatIs S v n) (hn : Fits n) : wpf fns (.fn 87 [] []) [v] S fun r S' => NatIs S' r n ∧ Same S S' := by
  obtain ⟨l, h1, h2, rfl⟩ := h
  exact wpf_mono (copy_spec hfn h1 (Fits.len h2 hn)) fun r S' ⟨q1, q2⟩ => ⟨⟨l, q1, h2, rfl⟩, q2⟩

/-! ## append beyond the room: the block is given up -/
theorem app_grow {S : St} {b t n w : Nat} {d : List Nat} {bytes : Nat} (hb : S.h.get b = some (.cells (cells32 d) true 1)) (ht : S.h.get t = some (.cells [.int .u32 ((w : Nat) : Int)] false 0)) (hn : n = d.length) (h1 : n + 1 ≤ room) (h2 : (n + 1) * bytes ≤ room) :
    appendV bytes 1 (.sl b 0 n n true) (.sl t 0 1 1 false) S = some (.sl S.nx 0 (n + 1) (n + 1) true, ⟨(S.h.set b none).set S.nx (some (.cells (cells32 (d ++ [w])) true 1)), S.nx + 1⟩) := by
  subst hn
  have e1 : srcCells (.sl t 0 1 1 false) S.h 1 1 = some [.int .u32 ((w : Nat) : Int)] := by
    show osel (cellsAt S.h t) (fun cs => cut cs 0 (1 * 1)) = _
    unfold cellsAt
    rw [ht]
    rfl
  show (osel (some 1) fun k => osel (srcCells (.sl t 0 1 1 false) S.h 1 k) fun new => appV (.sl b 0 d.length d.length true) bytes 1 k new S) = _
  rw [osel_some, e1, osel_some]
  show appSl bytes 1 b 0 d.length d.length true 1 [.int .u32 ((w : Nat) : Int)] S = _
  unfold appSl
  have e2 : Nat.ble (d.length + 1) d.length = false := by rw [Bool.eq_false_iff]; intro h; have := Nat.le_of_ble_eq_true h; omega
  rw [e2, bsel_false, Nat.ble_eq_true_of_le h1, bsel_true, Nat.ble_eq_true_of_le h2, bsel_true, hb, osel_some]
  have e3 : cut (cells32 d) 0 (d.length * 1) = some (cells32 d) := by
    unfold cut
    rw [takeL_eq, dropL_eq, List.drop_zero, Nat.mul_one, if_pos (by rw [cells32_length]; exact Nat.le_refl _), List.take_of_length_le (by rw [cells32_length]; exact Nat.le_refl _)]
  have e4 : Nat.beq (0 + d.length * 1) (lenL (cells32 d)) = true := by rw [lenL_eq, cells32_length, Nat.beq_eq]; omega
  simp only [growB, e3, osel_some, bsel_true, Nat.beq_eq, e4]
  have e5 : Nat.beq 1 1 = true := rfl
  rw [e5, bsel_true, appL_eq]
  simp [grown, cells32]
end Go.Ev.Gl

namespace Go.Ev.Gl
variable {fns : T AFn}

/-- a slice that grows from nil, in memory newer than S0's -/
def GrIs (S0 S : St) (v : AV) (d : List Nat) : Prop :=
  (v = .nilsl ∧ d = []) ∨ ∃ b, v = .sl b 0 d.length d.length true ∧ S0.nx ≤ b ∧ b < S.nx ∧ S.h.get b = some (.cells (cells32 d) true 1)

theorem GrIs.limbs {S0 S : St} {v : AV} {d : List Nat} (h : GrIs S0 S v d) : LimbIs S v d := by
  rcases h with ⟨rfl, rfl⟩ | ⟨b, rfl, _, hb, h⟩
  · exact .inl ⟨rfl, .inl rfl⟩
  · exact limbs_own h hb rfl (Nat.le_refl _)

/-- the new element lies in a block of its own, the newest -/
theorem GrIs.app {S0 S : St} {v : AV} {d : List Nat} {w bytes : Nat} (h : GrIs S0 S v d) (hS : Same S0 S) (h1 : d.length + 1 ≤ room) (h2 : (d.length + 1) * bytes ≤ room) :
    ∃ v' S', appendV bytes 1 v (.sl S.nx 0 1 1 false) ⟨S.h.set S.nx (some (.cells [.int .u32 ((w : Nat) : Int)] false 0)), S.nx + 1⟩ = some (v', S') ∧ GrIs S0 S' v' (d ++ [w]) ∧ Same S0 S' := by
  have ht : (S.h.set S.nx (some (AB.cells [AV.int .u32 ((w : Nat) : Int)] false 0))).get S.nx = some (.cells [.int .u32 ((w : Nat) : Int)] false 0) := by rw [T.get_set, if_pos rfl]
  have hS1 : Same S0 ⟨S.h.set S.nx (some (.cells [.int .u32 ((w : Nat) : Int)] false 0)), S.nx + 1⟩ := hS.trans (Same.alloc S _)
  rcases h with ⟨rfl, rfl⟩ | ⟨b, rfl, hb0, hb, h⟩
  · refine ⟨.sl (S.nx + 1) 0 1 1 true, ⟨(S.h.set S.nx (some (.cells [.int .u32 ((w : Nat) : Int)] false 0))).set (S.nx + 1) (some (.cells [.int .u32 ((w : Nat) : Int)] true 1)), S.nx + 1 + 1⟩, ?_, .inr ⟨S.nx + 1, rfl, by have := hS.1; omega, by simp, ?_⟩, hS1.trans (Same.alloc _ _)⟩
    · have e1 : srcCells (.sl S.nx 0 1 1 false) (S.h.set S.nx (some (.cells [.int .u32 ((w : Nat) : Int)] false 0))) 1 1 = some [.int .u32 ((w : Nat) : Int)] := by
        show osel (cellsAt _ S.nx) (fun cs => cut cs 0 (1 * 1)) = _
        unfold cellsAt
        rw [ht]
        rfl
      show (osel (some 1) fun k => osel (srcCells (.sl S.nx 0 1 1 false) (S.h.set S.nx (some (.cells [.int .u32 ((w : Nat) : Int)] false 0))) 1 k) fun new => appV .nilsl bytes 1 k new _) = _
      rw [osel_some, e1, osel_some]
      show appNil bytes 1 1 _ _ = _
      unfold appNil
      have e2 : Nat.beq 1 0 = false := rfl
      simp at h1 h2
      rw [e2, bsel_false, Nat.ble_eq_true_of_le h1, bsel_true, Nat.ble_eq_true_of_le (by omega), bsel_true]
      rfl
    · simp only
      rw [T.get_set, if_pos rfl]
      rfl
  · have hb3 : (S.h.set S.nx (some (AB.cells [AV.int .u32 ((w : Nat) : Int)] false 0))).get b = some (.cells (cells32 d) true 1) := by rw [T.get_set, if_neg (by omega)]; exact h
    have happ := app_grow (S := ⟨S.h.set S.nx (some (.cells [.int .u32 ((w : Nat) : Int)] false 0)), S.nx + 1⟩) (bytes := bytes) hb3 ht rfl h1 h2
    refine ⟨_, _, happ, .inr ⟨S.nx + 1, by simp, by have := hS.1; omega, by simp, ?_⟩, ?_⟩
    · simp only
      rw [T.get_set, if_pos rfl]
    · exact ⟨Nat.le_trans hS.1 (by simp; omega), fun c hc => by
        simp only
        have := hS.1
        rw [T.get_set, if_neg (by omega), T.get_set, if_neg (by omega)]
        exact hS1.2 c hc⟩

theorem of_spec {S : St} {n : Nat} (hfn : fns.get 80 = some a80) (hn : n ≤ 18446744073709551615) : wpf fns (.fn 80 [] []) [.int .u64 (n : Int)] S fun r S' => NatIs S' r n ∧ Same S S' := by
  refine wpf_fn hfn (by simp) ?_
  simp
  refine wsr ?_
  simp
  refine wsr ?_
  simp
  refine wpc_seq (wpc_block (wpc_loop (fun k A S' => A.inr = false ∧ ∃ (d : List Nat) (v : AV), tmpV 0 A.F = .int .u64 (k : Int) ∧ k ≤ n ∧ tmpV 3 A.F = v ∧ GrIs S S' v d ∧ Same S S' ∧ Small d ∧ val d + B ^ d.length * k = n ∧ (d = [] ∨ B ^ (d.length - 1) ≤ n)) ?_ n _ _ ⟨rfl, [], .nilsl, by simp, Nat.le_refl _, by simp, .inl ⟨rfl, rfl⟩, Same.refl S, Small.nil, by simp [val_nil], .inl rfl⟩))
  rintro k ⟨F, inr⟩ S' ⟨q0, d, v, p0, hk, p3, hv, hS, hsd, hinv, hlow⟩
  simp only at q0 p0 p3
  subst q0
  refine wss ?_
  simp [p0]
  refine wpc_if (t := decide (0 < k)) (by simp) (fun h => wpc_skip ?_) (fun h => wpc_exit ?_)
  · have hk0 : 0 < k := by simpa using h
    have hquo := quoB (.p .int) (t := k) (by omega)
    have hrem := remB (.p .int) k
    have hdm : k / B * B + k % B = k := by rw [Nat.mul_comm]; exact Nat.div_add_mod k B
    have hmod : k % B < 1000000000 := Nat.mod_lt k B_pos
    have hdiv : k / B < k := Nat.div_lt_self hk0 (by decide)
    have hpow : B ^ d.length ≤ n := by
      have : B ^ d.length * 1 ≤ B ^ d.length * k := Nat.mul_le_mul_left _ hk0
      omega
    have hdl : d.length ≤ 100 := by
      rcases Nat.lt_or_ge 100 d.length with h | h
      · have h1 : B ^ 3 ≤ B ^ d.length := Nat.pow_le_pow_right B_pos (by omega)
        have h2 : (18446744073709551615 : Nat) < B ^ 3 := by decide
        omega
      · exact h
    have hstep : val d + B ^ d.length * (k % B) + B ^ (d.length + 1) * (k / B) = n := by
      rw [← hinv, Nat.pow_succ, Nat.mul_assoc, Nat.add_assoc, ← Nat.mul_add]
      congr 2
      rw [Nat.mul_comm B, Nat.add_comm]
      exact hdm
    generalize k / B = q at hdm hquo hdiv hstep
    generalize k % B = r at hdm hmod hrem hstep
    have w1 : IntKind.u32.wrap (r : Int) = (r : Int) := wrap_u32 (by omega) (by omega)
    obtain ⟨v', S2, happ, hg, hS2⟩ := hv.app (w := r) (bytes := 4) hS (by unfold room; omega) (by unfold room; omega)
    refine wpc_block (wpc_seq (wpc_reg ?_))
    simp [p0, p3, hrem, w1, evA_one (k := .u32) (n := (r : Int))]
    refine wpo_x (fun call => by simp [p3]; exact happ) ?_
    simp
    refine wpc_reg ?_
    simp [p0, hquo]
    refine ⟨q, hdiv, rfl, by omega, d ++ [r], hg, hS2, Small.append.2 ⟨hsd, fun z hz => ?_⟩, ?_, ?_⟩
    · have : z = r := by simpa using hz
      rw [this]; exact hmod
    · rw [val_snoc, List.length_append]; exact hstep
    · right; rw [List.length_append]; exact hpow
  · have hk0 : k = 0 := by have : ¬ 0 < k := by simpa using h
                           omega
    subst hk0
    simp
    refine wsr ?_
    simp [p3]
    refine wpc_ret ?_
    simp
    refine ⟨⟨d, hv.limbs, norm_of_low hsd ?_, by simpa using hinv⟩, hS⟩
    rcases hlow with h | h
    · exact .inl h
    · right
      simp at hinv
      omega
end Go.Ev.Gl

namespace Go.Ev.Gl
variable {fns : T AFn}

theorem val_drop {l : List Nat} {j : Nat} (h : j < l.length) : val (l.drop j) = l[j]?.getD 0 + B * val (l.drop (j + 1)) := by
  rw [List.drop_eq_getElem_cons h, val_cons]
  simp [h]

theorem word_spec {S : St} {v : AV} {l : List Nat} (hfn : fns.get 61 = some a61) (h : LimbIs S v l) (hs : Small l) (hlen : l.length ≤ 2) : wpf fns (.fn 61 [] []) [v] S fun r S' => r = .int .u64 (val l : Int) ∧ S' = S := by
  have hbound : ∀ k, val (l.drop k) < 1000000000000000000 := fun k => by
    have h1 := val_lt (l := l.drop k) (fun x hx => hs x (List.mem_of_mem_drop hx))
    have h2 : B ^ (l.drop k).length ≤ B ^ 2 := Nat.pow_le_pow_right B_pos (by simp; omega)
    have h3 : B ^ 2 = 1000000000000000000 := by decide
    omega
  refine wpf_fn hfn (by simp) ?_
  simp
  refine wsr ?_
  simp
  refine wsr ?_
  simp
  refine wss ?_
  simp [h.len]
  refine wpc_block (wpc_loop (fun k A S' => S' = S ∧ A.inr = false ∧ tmpV 0 A.F = v ∧ tmpV 3 A.F = .int .u64 (val (l.drop k) : Int) ∧ tmpV 4 A.F = .int .i64 ((k : Int) - 1) ∧ k ≤ l.length) ?_ l.length _ _ ⟨rfl, rfl, by simp, by simp [val_nil], by simp; exact wrap_i64 (by omega) (by omega), Nat.le_refl _⟩)
  rintro k ⟨F, inr⟩ S' ⟨rfl, rfl, p0, p3, p4, hk⟩
  simp only at p0 p3 p4
  refine wss ?_
  cases k with
  | zero =>
    simp [p4]
    refine wpc_non (by simp) (wpc_exit ?_)
    simp
    refine wsr ?_
    simp [p3]
    refine wpc_ret ?_
    simp
  | succ j =>
    have hj : j < l.length := by omega
    have e4 : tmpV 4 F = .int .i64 (j : Int) := by rw [p4]; congr 1; omega
    have hld := h.ld hj
    rw [List.getD_eq_getElem?_getD] at hld
    have hv := val_drop hj
    have hb1 := hbound j
    have hcast : ((B * val (l.drop (j + 1)) : Nat) : Int) = (val (l.drop (j + 1)) : Int) * 1000000000 := by rw [Nat.mul_comm, Int.natCast_mul, B_cast]
    generalize hz : B * val (l.drop (j + 1)) = z at hv hcast
    generalize l[j]?.getD 0 = x at hld hv
    generalize val (l.drop (j + 1)) = y at p3 hcast
    have w1 : IntKind.u64.wrap ((y : Int) * 1000000000) = (z : Int) := by rw [← hcast]; exact wrap_u64 (by omega) (by omega)
    have w2 : IntKind.u64.wrap (x : Int) = (x : Int) := wrap_u64 (by omega) (by omega)
    have w3 : IntKind.u64.wrap ((z : Int) + (x : Int)) = (val (l.drop j) : Int) := by rw [wrap_u64 (by omega) (by omega)]; omega
    simp [e4]
    refine wpc_yes (by simp) (wpc_skip ?_)
    simp
    refine wpc_seq (wpc_block (wpc_reg ?_))
    simp [p0, p3, e4, h.iaddr hj, hld, w1, w2, w3]
    refine wpc_reg ?_
    simp [e4]
    exact ⟨j, by omega, by simp [p0], rfl, by exact wrap_i64 (by omega) (by omega), by omega⟩
end Go.Ev.Gl

namespace Go.Ev.Gl
variable {fns : T AFn}

theorem set_low {j w : Nat} {qs : List Nat} : (List.replicate (j + 1) 0 ++ qs).set j w = List.replicate j 0 ++ (w :: qs) := by
  rw [List.replicate_succ', List.append_assoc, List.set_append]
  simp

theorem short_step {x y qv b w r r' t c : Nat} (h1 : y = qv * b + r) (ht : r * c + x = t) (hd : w * b + r' = t) : x + c * y = (w + c * qv) * b + r' := by
  subst h1
  rw [Nat.mul_add, Nat.add_mul, Nat.mul_assoc, Nat.mul_comm c r]
  omega

def ShortI (S : St) (a : AV) (l : List Nat) (b k : Nat) (A : Act') (S' : St) : Prop :=
  A.inr = false ∧ ∃ (qs : List Nat) (r : Nat), tmpV 0 A.F = a ∧ tmpV 1 A.F = .int .u32 (b : Int) ∧ tmpV 6 A.F = .sl S.nx 0 l.length l.length false ∧ tmpV 7 A.F = .int .u64 (r : Int) ∧ tmpV 8 A.F = .int .i64 ((k : Int) - 1) ∧ k ≤ l.length ∧
      qs.length + k = l.length ∧ Same S S' ∧ S.nx < S'.nx ∧ S'.h.get S.nx = some (.cells (cells32 (List.replicate k 0 ++ qs)) false 0) ∧ Small qs ∧ r < b ∧ val (l.drop k) = val qs * b + r

theorem short_spec {S : St} {a : AV} {l : List Nat} {b : Nat} (h_trim : fns.get 122 = some a122) (hfn : fns.get 119 = some a119) (ha : LimbIs S a l) (hl : Small l) (hlen : l.length ≤ 100000) (hb : 0 < b) (hbB : b ≤ B) :
    wpf fns (.fn 119 [] []) [a, .int .u32 (b : Int)] S fun r S' => ∃ q, r = .tup [q, .int .u32 ((val l % b : Nat) : Int)] ∧ NatIs S' q (val l / b) ∧ Same S S' := by
  have hr1 : l.length ≤ room := by unfold room; omega
  have hr2 : 4 * l.length ≤ room := by unfold room; omega
  have hB : B = 1000000000 := rfl
  refine wpf_fn hfn (by simp) ?_
  simp
  refine wsr ?_
  simp
  refine wsr ?_
  simp [ha.len, evA_mk (n := l.length), hr1, hr2]
  refine wsr ?_
  simp
  refine wss ?_
  simp [ha.len]
  refine wpc_block (wpc_loop (ShortI S a l b) ?_ l.length _ _
      ⟨rfl, [], 0, by simp, by simp, by simp, by simp, by simp; exact wrap_i64 (by omega) (by omega), Nat.le_refl _, by simp, Same.alloc S _, by simp, by simp [T.get_set, cells32_zeros], Small.nil, hb, by simp [val_nil]⟩)
  rintro k ⟨F, inr⟩ S' ⟨p, qs, r, p0, p1, p6, p7, p8, hk, hq, hS, hnx, hblk, hqs, hr, hinv⟩
  simp only at p p0 p1 p6 p7 p8
  subst p
  have ha' := ha.same hS
  refine wss ?_
  cases k with
  | zero =>
    have hout := limbs_own (n := l.length) (o' := false) (cap := l.length) hblk hnx (by simp; omega) (Nat.le_refl _)
    simp at hout hinv hq
    have hdiv : val l / b = val qs ∧ val l % b = r := by
      rw [hinv]
      constructor
      · rw [Nat.add_comm, Nat.add_mul_div_right _ _ hb, Nat.div_eq_of_lt hr]; omega
      · rw [Nat.add_comm, Nat.add_mul_mod_self_right, Nat.mod_eq_of_lt hr]
    have w1 : IntKind.u32.wrap (r : Int) = (r : Int) := wrap_u32 (by omega) (by omega)
    simp [p8]
    refine wpc_non (by simp) (wpc_exit ?_)
    simp
    refine wsr ?_
    simp [p6]
    refine wpo_call ?_
    simp
    refine wpf_mono (trim_spec h_trim hout hqs (by omega)) ?_
    rintro v S1 ⟨hN, rfl⟩
    simp [p7, w1]
    refine wpc_ret ?_
    simp only [retQ_ret, results_t, results_nil, osel_some, onSome_some, oneOf_two, tmpV_putF, reduceEqDiff, if_true, if_false]
    have hmodI : (val l : Int) % (b : Int) = (r : Int) := by rw [← hdiv.2]; simp
    rw [hdiv.1, hmodI]
    exact ⟨v, rfl, hN, hS⟩
  | succ j =>
    have hj : j < l.length := by omega
    have e8 : tmpV 8 F = .int .i64 (j : Int) := by rw [p8]; congr 1; omega
    have hld := ha'.ld hj
    rw [List.getD_eq_getElem?_getD] at hld
    have hx : l[j]?.getD 0 < B := by
      have := hl.get (List.getElem?_eq_getElem hj)
      simpa [hj] using this
    have hv := val_drop hj
    generalize l[j]?.getD 0 = x at hld hx hv
    have hrc : r * 1000000000 < b * 1000000000 := Nat.mul_lt_mul_of_pos_right hr (by decide)
    have hbc : b * 1000000000 ≤ 1000000000 * 1000000000 := Nat.mul_le_mul_right _ hbB
    obtain ⟨t, ht⟩ : ∃ t, r * 1000000000 + x = t := ⟨_, rfl⟩
    have w1 : IntKind.u64.wrap ((r : Int) * 1000000000) = ((r * 1000000000 : Nat) : Int) := by rw [wrap_u64 (by omega) (by omega)]; simp
    have w2 : IntKind.u64.wrap (x : Int) = (x : Int) := wrap_u64 (by omega) (by omega)
    have w3 : IntKind.u64.wrap (((r * 1000000000 : Nat) : Int) + (x : Int)) = (t : Int) := by rw [wrap_u64 (by omega) (by omega)]; omega
    have w4 : IntKind.u64.wrap (b : Int) = (b : Int) := wrap_u64 (by omega) (by omega)
    have hquo := bin_quo_u64 (.p .int) (t := t) (d := b) (by omega) hb
    have hrem := bin_rem_u64 (.p .int) (t := t) (d := b) hb
    have hdm : t / b * b + t % b = t := by rw [Nat.mul_comm]; exact Nat.div_add_mod t b
    have hmod : t % b < b := Nat.mod_lt t hb
    have hwB : t / b < B := by
      rw [Nat.div_lt_iff_lt_mul hb, hB, Nat.mul_comm]
      have : (r + 1) * 1000000000 ≤ b * 1000000000 := Nat.mul_le_mul_right _ hr
      omega
    generalize t / b = w at hquo hdm hwB
    generalize t % b = r' at hrem hdm hmod
    have w5 : IntKind.u32.wrap (w : Int) = (w : Int) := wrap_u32 (by omega) (by omega)
    have hst := st_at (w := w) hblk (p := j) (by simp; omega)
    rw [set_low] at hst
    have hiad : iaddrV (.slice 1) (.sl S.nx 0 l.length l.length false) j = some (.ptr S.nx j) := by rw [iaddr_own hj]; simp
    simp [e8]
    refine wpc_yes (by simp) (wpc_skip ?_)
    simp
    refine wpc_seq (wpc_block (wpc_seq (wpc_reg ?_)))
    simp only [wpo_qE, wpo_nil, onSome_some, evQ_mv, evQ_conv, evQ_bin, evQ_iaddr, evQ_ld, val_t, val_c, tmpV_putF, conv_int, bin_mul, bin_add, bin_sub, natOf_cast, osel_some, reduceEqDiff, if_true, if_false, reduceCtorEq, thenQ_normal, blockQ_normal, roundQ_normal, p0, p7, e8, ha'.iaddr hj, hld, w1, w2, w3]
    refine wsr ?_
    simp only [wpo_qE, wpo_nil, onSome_some, evQ_mv, evQ_conv, evQ_bin, evQ_iaddr, evQ_ld, val_t, val_c, tmpV_putF, conv_int, natOf_cast, osel_some, reduceEqDiff, if_true, if_false, reduceCtorEq, thenQ_normal, p1, p6, e8, w4, hquo, w5, hiad]
    refine wpo_x (fun call => by simp only [evX_st, val_t, tmpV_putF, reduceEqDiff, if_true, if_false, cells_int, osel_some]; exact hst) ?_
    simp only [wpo_nil, thenQ_normal, putF_none]
    refine wpc_reg ?_
    simp only [wpo_qE, wpo_nil, onSome_some, evQ_mv, evQ_conv, evQ_bin, val_t, val_c, tmpV_putF, conv_int, reduceEqDiff, if_true, if_false, reduceCtorEq, blockQ_normal, thenQ_normal, p1, w4, hrem]
    refine wpc_reg ?_
    simp only [wpo_qE, wpo_nil, onSome_some, evQ_mv, evQ_bin, val_t, val_c, tmpV_putF, bin_sub, reduceEqDiff, if_true, if_false, reduceCtorEq, roundQ_normal, e8]
    refine ⟨j, by omega, rfl, w :: qs, r', by simp [p0], by simp [p1], by simp [p6], by simp, by simp; exact wrap_i64 (by omega) (by omega), by omega, by simp; omega, hS.put (Nat.le_refl _) _, hnx, ?_, Small.cons.2 ⟨hwB, hqs⟩, hmod, ?_⟩
    · simp only
      rw [T.get_set, if_pos rfl]
    · rw [hv, val_cons]
      exact short_step hinv (by rw [hB]; exact ht) hdm
end Go.Ev.Gl

namespace Go.Ev.Gl
variable {fns : T AFn}

def TimesI (S : St) (a : AV) (l : List Nat) (x size k : Nat) (A : Act') (S' : St) : Prop :=
  A.inr = false ∧ ∃ (i : Nat) (d : List Nat) (c : Nat), i + k = size ∧ d.length = i ∧ tmpV 0 A.F = a ∧ tmpV 1 A.F = .int .u64 (x : Int) ∧ tmpV 7 A.F = .sl S.nx 0 size size false ∧ tmpV 8 A.F = .int .u64 (c : Int) ∧ tmpV 13 A.F = .int .i64 (size : Int) ∧ tmpV 14 A.F = .int .i64 (i : Int) ∧
    Same S S' ∧ S.nx < S'.nx ∧ S'.h.get S.nx = some (.cells (cells32 (d ++ List.replicate (size - i) 0)) false 0) ∧ Small d ∧ c < B ∧ val d + c * B ^ i = val (l.take i) * x

theorem times_step {p y x r c w c' b : Nat} (hinv : r + c * b = p * x) (hw : w + c' * B = c + y * x) : (r + b * w) + c' * (b * B) = (p + b * y) * x := by
  have h1 : b * (w + c' * B) = b * (c + y * x) := by rw [hw]
  rw [Nat.mul_add, Nat.mul_add] at h1
  have h2 : b * (c' * B) = c' * (b * B) := by rw [← Nat.mul_assoc, Nat.mul_comm b c', Nat.mul_assoc]
  have h3 : b * c = c * b := Nat.mul_comm _ _
  rw [Nat.add_mul, ← hinv, Nat.mul_assoc]
  omega

theorem times_spec {S : St} {a : AV} {l : List Nat} {x size : Nat} (hfn : fns.get 120 = some a120) (ha : LimbIs S a l) (hl : Small l) (hx : x ≤ B) (hsz : size ≤ 200000) (hls : l.length ≤ size) (hfit : val l * x < B ^ size) :
    wpf fns (.fn 120 [] []) [a, .int .u64 (x : Int), .int .i64 (size : Int)] S fun r S' => ∃ d, r = .sl S.nx 0 size size false ∧ S.nx < S'.nx ∧ S'.h.get S.nx = some (.cells (cells32 d) false 0) ∧ d.length = size ∧ Small d ∧ val d = val l * x ∧ Same S S' := by
  have hr1 : size ≤ room := by unfold room; omega
  have hr2 : 4 * size ≤ room := by unfold room; omega
  have hB : B = 1000000000 := rfl
  refine wpf_fn hfn (by simp) ?_
  simp
  refine wsr ?_
  simp
  refine wsr ?_
  simp [evA_mk (n := size), hr1, hr2]
  refine wsr ?_
  simp
  refine wss ?_
  simp [lenSlV]
  refine wpc_block (wpc_loop (TimesI S a l x size) ?_ size _ _ ⟨rfl, 0, [], 0, by simp, rfl, by simp, by simp, by simp, by simp, by simp, by simp, Same.alloc S _, by simp, by simp [T.get_set, cells32_zeros], Small.nil, by decide, by simp [val_nil]⟩)
  rintro k ⟨F, inr⟩ S' ⟨p, i, d, c, hk, hd, p0, p1, p7, p8, p13, p14, hS, hnx, hblk, hsd, hc, hinv⟩
  simp only at p p0 p1 p7 p8 p13 p14
  subst p
  have ha' := ha.same hS
  refine wsr ?_
  simp [p13, p14]
  refine wpc_seq (wpc_if (t := decide (i < size)) (by simp) (fun h => wpc_skip ?_) (fun h => wpc_exit ?_))
  · have hi : i < size := by simpa using h
    have hy : l[i]?.getD 0 < B := by
      by_cases h : i < l.length
      · have := hl.get (List.getElem?_eq_getElem h)
        simpa [h] using this
      · simp [show l.length ≤ i by omega, B]
    have hyld : ∀ h : i < l.length, qLdV (elemP a i) false 1 S'.h = some (.int .u32 ((l[i]?.getD 0 : Nat) : Int)) := fun h => by
      have := ha'.ld h
      rwa [List.getD_eq_getElem?_getD] at this
    have hyz : ¬ i < l.length → l[i]?.getD 0 = 0 := fun h => by simp [show l.length ≤ i by omega]
    have etk : val (l.take (i + 1)) = val (l.take i) + B ^ i * (l[i]?.getD 0) := by rw [val_take_pad, List.getD_eq_getElem?_getD]
    generalize l[i]?.getD 0 = y at hy hyld hyz etk
    have hyx : y * x ≤ 999999999 * 1000000000 := Nat.mul_le_mul (by omega) (by omega)
    have w1 : IntKind.u64.wrap (y : Int) = (y : Int) := wrap_u64 (by omega) (by omega)
    have w2 : IntKind.u64.wrap ((y : Int) * (x : Int)) = ((y * x : Nat) : Int) := by rw [← Int.natCast_mul]; exact wrap_u64 (by omega) (by omega)
    have w3 : IntKind.u64.wrap ((c : Int) + ((y * x : Nat) : Int)) = ((c + y * x : Nat) : Int) := by rw [wrap_u64 (by omega) (by omega)]; omega
    have htt : ∃ t, c + y * x = t := ⟨_, rfl⟩
    obtain ⟨t, ht⟩ := htt
    rw [ht] at w3
    refine wpc_seq (wpc_block (wpc_seq (wpc_reg ?_)))
    simp only [wpo_qE, wpo_nil, onSome_some, evQ_mv, val_t, tmpV_putF, reduceEqDiff, if_true, if_false, thenQ_normal, p14]
    refine wpc_seq (wpc_mono (Q := fun o A' S'' => o = .normal ∧ S'' = S' ∧ A'.inr = false ∧ tmpV 0 A'.F = a ∧ tmpV 1 A'.F = .int .u64 (x : Int) ∧ tmpV 7 A'.F = .sl S.nx 0 size size false ∧ tmpV 8 A'.F = .int .u64 (t : Int) ∧ tmpV 9 A'.F = .int .i64 (i : Int) ∧ tmpV 13 A'.F = .int .i64 (size : Int) ∧ tmpV 14 A'.F = .int .i64 (i : Int)) ?_ ?_)
    · refine wsr ?_
      simp [p0, ha'.len]
      refine wpc_if (t := decide (i < l.length)) (by simp) (fun h => ?_) (fun h => wpc_skip ?_)
      · have him : i < l.length := by simpa using h
        refine wpc_reg ?_
        simp only [wpo_qE, wpo_nil, onSome_some, evQ_mv, evQ_conv, evQ_bin, evQ_iaddr, evQ_ld, val_t, val_c, tmpV_putF, conv_int, bin_mul, bin_add, natOf_cast, osel_some, reduceEqDiff, if_true, if_false, reduceCtorEq, p0, p1, p8, ha'.iaddr him, hyld him, w1, w2, w3]
        simp [p0, p1, p7, p13, p14]
      · have him : ¬ i < l.length := by simpa using h
        have := hyz him
        subst this
        have : t = c := by omega
        subst this
        simp [p0, p1, p7, p8, p13, p14]
    rintro o ⟨F2, inr2⟩ S'' ⟨rfl, rfl, rfl, g0, g1, g7, g8, g9, g13, g14⟩
    simp only at g0 g1 g7 g8 g9 g13 g14
    have hquo := quoB (.p .int) (t := t) (by omega)
    have hrem := remB (.p .int) t
    have hdm : t / B * B + t % B = t := by rw [Nat.mul_comm]; exact Nat.div_add_mod t B
    have hmod : t % B < 1000000000 := Nat.mod_lt t B_pos
    have hqB : t / B < B := by rw [Nat.div_lt_iff_lt_mul B_pos, hB]; omega
    generalize t / B = q at hquo hdm hqB
    generalize t % B = r at hrem hdm hmod
    have w4 : IntKind.u32.wrap (r : Int) = (r : Int) := wrap_u32 (by omega) (by omega)
    have hiad : iaddrV (.slice 1) (.sl S.nx 0 size size false) i = some (.ptr S.nx i) := by rw [iaddr_own hi]; simp
    have hst := st_at (w := r) hblk (p := i) (by simp [hd]; omega)
    have hset : (d ++ List.replicate (size - i) 0).set i r = d ++ [r] ++ List.replicate (size - (i + 1)) 0 := by rw [← hd]; exact set_zeros (by omega)
    rw [hset] at hst
    show wpc fns _ _ _ _
    refine wsr ?_
    simp only [wpo_qE, wpo_nil, onSome_some, evQ_mv, evQ_conv, evQ_bin, evQ_iaddr, val_t, val_c, tmpV_putF, conv_int, natOf_cast, osel_some, reduceEqDiff, if_true, if_false, reduceCtorEq, g7, g8, g9, hrem, w4, hiad]
    refine wpo_x (fun call => by simp only [evX_st, val_t, tmpV_putF, reduceEqDiff, if_true, if_false, cells_int, osel_some]; exact hst) ?_
    simp only [wpo_nil, thenQ_normal, putF_none]
    refine wpc_reg ?_
    simp only [wpo_qE, wpo_nil, onSome_some, evQ_mv, evQ_bin, val_t, val_c, tmpV_putF, reduceEqDiff, if_true, if_false, reduceCtorEq, blockQ_normal, thenQ_normal, g8, hquo]
    refine wpc_reg ?_
    have w7 : IntKind.i64.wrap ((i : Int) + 1) = ((i + 1 : Nat) : Int) := by rw [wrap_i64 (by omega) (by omega)]; omega
    simp only [wpo_qE, wpo_nil, onSome_some, evQ_mv, evQ_bin, val_t, val_c, tmpV_putF, bin_add, reduceEqDiff, if_true, if_false, reduceCtorEq, roundQ_normal, g14, w7]
    refine ⟨k - 1, by omega, rfl, i + 1, d ++ [r], q, by omega, by simp [hd], by simp [g0], by simp [g1], by simp [g7], by simp, by simp [g13], by simp, hS.put (Nat.le_refl _) _, hnx, ?_, Small.append.2 ⟨hsd, fun z hz => ?_⟩, hqB, ?_⟩
    · simp only
      rw [T.get_set, if_pos rfl]
    · have : z = r := by simpa using hz
      rw [this]; exact hmod
    · rw [val_snoc, hd, etk, Nat.pow_succ]
      exact times_step hinv (by omega)
  · have hi : i = size := by have : ¬ i < size := by simpa using h
                             omega
    subst hi
    rw [List.take_of_length_le hls] at hinv
    have hc0 : c = 0 := by
      rcases Nat.eq_zero_or_pos c with h | h
      · exact h
      · have : 1 * B ^ i ≤ c * B ^ i := Nat.mul_le_mul_right _ h
        omega
    subst hc0
    simp at hblk
    simp
    refine wsr ?_
    simp [p7]
    refine wpc_ret ?_
    simp
    exact ⟨hnx, d, hblk, hd, hsd, by omega, hS⟩
end Go.Ev.Gl

namespace Go.Ev.Gl
variable {fns : T AFn}

/-! ## Regions that draw their order, of plain operations alone -/
def runQ : List AO → Fr → T AB → (Fr → Prop) → Prop
  | [], F, _, Q => Q F
  | ⟨d, .q q, g, _⟩ :: l, F, h, Q => if wants g F = true then onSome (evQ q F h) fun v => (isLoad q = true → sameV v v = true) ∧ runQ l (putF d F v) h Q else runQ l (putF d F .undef) h Q
  | _ :: _, _, _, _ => False

theorem runQ_wpd {h : T AB} {base : Nat} {Q : Fr → Prop} : ∀ {ops : List AO} {i : Nat} {D : DS}, D.S.h = h → D.hs = [] → D.ps = [] → loadsOk h [] D.ls = true → runQ ops D.F h Q →
    wpd fns ops i base D fun D' => Q D'.F ∧ D'.S = D.S ∧ D'.ps = [] ∧ D'.hs = [] ∧ loadsOk h [] D'.ls = true
  | [], i, D, h1, h2, h3, h4, hr => by rw [wpd_nil]; exact ⟨hr, rfl, h3, h2, h4⟩
  | ⟨d, .q q, g, m⟩ :: l, i, ⟨F, S, ps, hs, ls⟩, h1, h2, h3, h4, hr => by
    simp only at h1 h2 h3 h4 hr
    subst h2; subst h3
    simp only [runQ] at hr
    have go : ∀ (_ : onSome (evQ q F h) fun v => (isLoad q = true → sameV v v = true) ∧ runQ l (putF d F v) h Q), wpd fns (⟨d, .q q, none, m⟩ :: l) i base ⟨F, S, [], [], ls⟩ fun D' => Q D'.F ∧ D'.S = S ∧ D'.ps = [] ∧ D'.hs = [] ∧ loadsOk h [] D'.ls = true := by
      rintro ⟨v, hv, hs, hr⟩
      rw [wpd_qE]
      subst h1
      refine ⟨v, hv, runQ_wpd rfl rfl rfl ?_ hr⟩
      show loadsOk S.h [] (bsel (isLoad q) (⟨q, F, v, i, m⟩ :: ls) ls) = true
      cases hq : isLoad q with
      | false => exact h4
      | true =>
        rw [bsel_true, loadsOk_cons, loadGo_nil]
        show bsel (sameO v (evQ q F S.h)) _ _ = true
        rw [hv, sameO_some, hs hq, bsel_true]
        exact h4
    cases g with
    | none => exact go (by rw [if_pos (show wants none F = true from rfl)] at hr; exact hr)
    | some g =>
      obtain ⟨s, b⟩ := g
      by_cases hw : wants (some (s, b)) F = true
      · rw [if_pos hw] at hr
        obtain ⟨n, D', e1, e2⟩ := go hr
        refine ⟨n, D', ?_, e2⟩
        have : evD ⟨d, .q q, some (s, b), m⟩ i base (ev fns n).call ⟨F, S, [], [], ls⟩ = evD ⟨d, .q q, none, m⟩ i base (ev fns n).call ⟨F, S, [], [], ls⟩ := by
          show bsel (wants (some (s, b)) F) _ _ = bsel true _ _
          rw [hw]; rfl
        show osel (evD ⟨d, .q q, some (s, b), m⟩ i base (ev fns n).call ⟨F, S, [], [], ls⟩) _ = _
        rw [this]; exact e1
      · rw [if_neg hw] at hr
        obtain ⟨n, D', e1, e2⟩ := runQ_wpd (i := i + 1) (D := ⟨putF d F .undef, S, [], [], ls⟩) h1 rfl rfl h4 hr
        refine ⟨n, D', ?_, e2⟩
        have : evD ⟨d, .q q, some (s, b), m⟩ i base (ev fns n).call ⟨F, S, [], [], ls⟩ = some ⟨putF d F .undef, S, [], [], ls⟩ := by
          show bsel (wants (some (s, b)) F) _ _ = _
          rw [show wants (some (s, b)) F = false by simpa using hw]; rfl
        show osel (evD ⟨d, .q q, some (s, b), m⟩ i base (ev fns n).call ⟨F, S, [], [], ls⟩) _ = _
        rw [this]; exact e1
  | ⟨d, .a a, g, m⟩ :: l, i, D, h1, h2, h3, h4, hr => by cases hr
  | ⟨d, .x a, g, m⟩ :: l, i, D, h1, h2, h3, h4, hr => by cases hr

theorem wpc_drq {ops : List AO} {A : Act'} {S : St} {Q : Out → Act' → St → Prop} (h : runQ ops A.F S.h fun F => Q .normal ⟨F, A.inr⟩ ⟨S.h, S.nx + ops.length⟩) : wpc fns (.drw ops) A S Q := by
  refine wpc_drw ?_
  obtain ⟨n, D', e1, e2, e3, e4, e5, e6⟩ := runQ_wpd (fns := fns) (base := S.nx) (i := 0) (D := ⟨A.F, ⟨S.h, S.nx + ops.length⟩, [], [], []⟩) rfl rfl rfl rfl h
  refine ⟨n, D', e1, ?_, ?_⟩
  · rw [e5]; exact e6
  · rw [e4, flush_nil, e3]; exact e2

theorem runQ_nil {F : Fr} {h : T AB} {Q : Fr → Prop} : runQ [] F h Q ↔ Q F := Iff.rfl
theorem runQ_q {d : Option Nat} {q : QOp} {m : Nat} {l : List AO} {F : Fr} {h : T AB} {Q : Fr → Prop} : runQ (⟨d, .q q, none, m⟩ :: l) F h Q ↔ onSome (evQ q F h) fun v => (isLoad q = true → sameV v v = true) ∧ runQ l (putF d F v) h Q := by
  show (if wants none F = true then _ else _) ↔ _
  rw [if_pos (show wants none F = true from rfl)]
theorem runQ_g {d : Option Nat} {q : QOp} {s : Nat} {b : Bool} {m : Nat} {l : List AO} {F : Fr} {h : T AB} {Q : Fr → Prop} : runQ (⟨d, .q q, some (s, b), m⟩ :: l) F h Q ↔ if isB (tmpV s F) b = true then runQ (⟨d, .q q, none, m⟩ :: l) F h Q else runQ l (putF d F .undef) h Q := by
  show (if wants (some (s, b)) F = true then _ else _) ↔ _
  rw [show wants (some (s, b)) F = isB (tmpV s F) b from rfl]
  split
  · rw [runQ_q]
  · rfl
theorem beq_tt : (true == true) = true := rfl
theorem beq_ff : (false == false) = true := rfl
theorem beq_tf : (true == false) = false := rfl
theorem beq_ft : (false == true) = false := rfl
theorem isB_undef (b : Bool) : isB .undef b = false := rfl
theorem isLoad_slc (k : SlK) (x : Opd) (a b c : Option Opd) : isLoad (.slc k x a b c) = false := rfl
theorem isLoad_extract (x : Opd) (i : Nat) : isLoad (.extract x i) = false := rfl
theorem isLoad_pick (c a b : Opd) : isLoad (.pick c a b) = false := rfl
theorem isLoad_fld (g : Bool) (o n : Nat) (x : Opd) : isLoad (.fld g o n x) = false := rfl
theorem isLoad_un (op : UnOp) (x : Opd) : isLoad (.un op x) = false := rfl
attribute [simp] runQ_nil runQ_q runQ_g isB_undef isLoad_slc isLoad_extract isLoad_pick isLoad_fld isLoad_un

/-! ## The rules without binders -/
def contQ (x : Option AV) (ld : Bool) (d : Option Nat) (l : List AO) (F : Fr) (h : T AB) (Q : Fr → Prop) : Prop := onSome x fun v => (ld = true → sameV v v = true) ∧ runQ l (putF d F v) h Q
theorem contQ_some {v : AV} {ld : Bool} {d : Option Nat} {l : List AO} {F : Fr} {h : T AB} {Q : Fr → Prop} : contQ (some v) ld d l F h Q ↔ (ld = true → sameV v v = true) ∧ runQ l (putF d F v) h Q := by unfold contQ; rw [onSome_some]
theorem runQ_c {d : Option Nat} {q : QOp} {m : Nat} {l : List AO} {F : Fr} {h : T AB} {Q : Fr → Prop} : runQ (⟨d, .q q, none, m⟩ :: l) F h Q ↔ contQ (evQ q F h) (isLoad q) d l F h Q := runQ_q
def contO (fns : T AFn) (x : Option AV) (d : Option Nat) (l : List AO) (F : Fr) (S : St) (Q : Fr → St → Prop) : Prop := onSome x fun v => wpo fns l (putF d F v) S Q
theorem contO_some {v : AV} {d : Option Nat} {l : List AO} {F : Fr} {S : St} {Q : Fr → St → Prop} : contO fns (some v) d l F S Q ↔ wpo fns l (putF d F v) S Q := by unfold contO; rw [onSome_some]
theorem wpo_c {d : Option Nat} {q : QOp} {m : Nat} {l : List AO} {F : Fr} {S : St} {Q : Fr → St → Prop} : wpo fns (⟨d, .q q, none, m⟩ :: l) F S Q ↔ contO fns (evQ q F S.h) d l F S Q := wpo_qE

/-! ## All but one block is as it was -/
def SameBut (b : Nat) (S S' : St) : Prop := S.nx ≤ S'.nx ∧ ∀ c, c < S.nx → c ≠ b → S'.h.get c = S.h.get c
theorem SameBut.refl (b : Nat) (S : St) : SameBut b S S := ⟨Nat.le_refl _, fun _ _ _ => rfl⟩
theorem SameBut.nx {b : Nat} {S S' : St} (h : SameBut b S S') (k : Nat) : SameBut b S ⟨S'.h, S'.nx + k⟩ := ⟨Nat.le_trans h.1 (Nat.le_add_right _ _), h.2⟩
theorem SameBut.put {b : Nat} {S S' : St} (h : SameBut b S S') (x : Option AB) : SameBut b S ⟨S'.h.set b x, S'.nx⟩ := ⟨h.1, fun c hc hne => by simp only; rw [T.get_set, if_neg hne]; exact h.2 c hc hne⟩
theorem SameBut.trans {b : Nat} {S S' S'' : St} (h : SameBut b S S') (h' : SameBut b S' S'') : SameBut b S S'' := ⟨Nat.le_trans h.1 h'.1, fun c hc hne => (h'.2 c (Nat.lt_of_lt_of_le hc h.1) hne).trans (h.2 c hc hne)⟩
theorem SameBut.same {b : Nat} {S0 S S' : St} (h0 : Same S0 S) (h : SameBut b S S') (hb : S0.nx ≤ b) : Same S0 S' := ⟨Nat.le_trans h0.1 h.1, fun c hc => (h.2 c (Nat.lt_of_lt_of_le hc h0.1) (by omega)).trans (h0.2 c hc)⟩
theorem Same.nx (S : St) (k : Nat) : Same S ⟨S.h, S.nx + k⟩ := ⟨Nat.le_add_right _ _, fun _ _ => rfl⟩

/-! ## A window of a list -/
theorem win_get {p u q : List Nat} {i off : Nat} (hp : p.length = off) (hi : i < u.length) : (p ++ u ++ q)[off + i]? = u[i]? := by
  subst hp
  rw [List.append_assoc, List.getElem?_append_right (by omega), List.getElem?_append_left (by omega)]
  congr 1
  omega
theorem win_set {p u q : List Nat} {i off w : Nat} (hp : p.length = off) (hi : i < u.length) : (p ++ u ++ q).set (off + i) w = p ++ u.set i w ++ q := by
  subst hp
  rw [List.append_assoc, List.set_append, if_neg (by omega), List.set_append, if_pos (by omega), List.append_assoc]
  congr 3
  omega
theorem win_len {p u q : List Nat} {i off : Nat} (hp : p.length = off) (hi : i < u.length) : off + i < (p ++ u ++ q).length := by simp; omega
theorem set_mid {d u : List Nat} {w : Nat} (h : d.length < u.length) : (d ++ u.drop d.length).set d.length w = d ++ [w] ++ u.drop (d.length + 1) := by
  rw [List.set_append, if_neg (by omega), Nat.sub_self, List.append_assoc]
  congr 1
  rw [List.drop_eq_getElem_cons h]
  rfl
theorem small_one {x : Nat} (h : x < B) : Small [x] := Small.cons.2 ⟨h, Small.nil⟩
theorem getD_lt {l : List Nat} (h : Small l) (i : Nat) : l[i]?.getD 0 < B := by
  by_cases hi : i < l.length
  · have := h.get (List.getElem?_eq_getElem hi)
    simpa [hi] using this
  · simp [show l.length ≤ i by omega, B]
theorem val_take_get (l : List Nat) (i : Nat) : val (l.take (i + 1)) = val (l.take i) + B ^ i * (l[i]?.getD 0) := by rw [val_take_pad, List.getD_eq_getElem?_getD]

/-- the rules of a step, joined -/
theorem stU : type_of% (And.intro @wpo_c (And.intro @wpo_gE (And.intro @wpo_nil (And.intro @thenQ_normal (And.intro @thenQ_ret (And.intro @thenQ_exit (And.intro @blockQ_normal (And.intro @blockQ_ret (And.intro @blockQ_exit (And.intro @roundQ_normal (And.intro @roundQ_ret (And.intro @roundQ_exit (And.intro @retQ_ret (And.intro @runQ_nil (And.intro @runQ_c (@runQ_g)))))))))))))))) := And.intro @wpo_c (And.intro @wpo_gE (And.intro @wpo_nil (And.intro @thenQ_normal (And.intro @thenQ_ret (And.intro @thenQ_exit (And.intro @blockQ_normal (And.intro @blockQ_ret (And.intro @blockQ_exit (And.intro @roundQ_normal (And.intro @roundQ_ret (And.intro @roundQ_exit (And.intro @retQ_ret (And.intro @runQ_nil (And.intro @runQ_c (@runQ_g)))))))))))))))
theorem stD : type_of% (And.intro @contO_some (And.intro @onSome_some (And.intro @evQ_mv (And.intro @evQ_conv (And.intro @evQ_bin (And.intro @evQ_un (And.intro @evQ_iaddr (And.intro @evQ_ld (And.intro @evQ_lenSl (And.intro @evQ_extract (And.intro @evQ_fld (And.intro @evQ_pick (And.intro @qPick_bool (And.intro @evQ_slc (And.intro @val_t (And.intro @val_c (And.intro @tmpV_putF (And.intro @putF_none (And.intro @conv_int (And.intro @bin_mul (And.intro @bin_add (And.intro @bin_sub (And.intro @bin_lss (And.intro @bin_leq (And.intro @bin_gtr (And.intro @bin_geq (And.intro @bin_eql (And.intro @bin_neq (And.intro @natOf_cast (And.intro @osel_some (And.intro @results_t (And.intro @results_nil (And.intro @oneOf_one (And.intro @oneOf_two (And.intro @valsOf_nil (And.intro @valsOf_cons (And.intro @argsIn_nil (And.intro @argsIn_cons (And.intro @contQ_some (And.intro @isB_bool (And.intro @isB_undef (And.intro @beq_tt (And.intro @beq_ff (And.intro @beq_tf (And.intro @beq_ft (And.intro @isLoad_mv (And.intro @isLoad_bin (And.intro @isLoad_iaddr (And.intro @isLoad_ld (And.intro @isLoad_lenSl (And.intro @isLoad_int (And.intro @isLoad_slc (And.intro @isLoad_extract (And.intro @isLoad_pick (And.intro @isLoad_fld (And.intro @isLoad_un (And.intro @same_int (And.intro @same_bool (And.intro @same_ptr (And.intro @same_sl (And.intro @same_nilsl (And.intro @Bool.false_eq_true (And.intro @false_implies (And.intro @true_implies (And.intro @true_and (And.intro @and_true (And.intro @Int.ofNat_eq_natCast (And.intro @Int.cast_ofNat_Int (And.intro @Int.natCast_zero (And.intro @Int.natCast_one (And.intro (@bsel_true (T AB)) (And.intro (@bsel_false (T AB)) (And.intro (@bsel_true AV) (And.intro (@bsel_false AV) (And.intro (@List.nil_append AV) (And.intro (@List.cons_append AV) (And.intro (@List.append_nil AV) (And.intro (@List.nil_append Nat) (And.intro (@List.cons_append Nat) (@List.append_nil Nat)))))))))))))))))))))))))))))))))))))))))))))))))))))))))))))))))))))))))))))))) := And.intro @contO_some (And.intro @onSome_some (And.intro @evQ_mv (And.intro @evQ_conv (And.intro @evQ_bin (And.intro @evQ_un (And.intro @evQ_iaddr (And.intro @evQ_ld (And.intro @evQ_lenSl (And.intro @evQ_extract (And.intro @evQ_fld (And.intro @evQ_pick (And.intro @qPick_bool (And.intro @evQ_slc (And.intro @val_t (And.intro @val_c (And.intro @tmpV_putF (And.intro @putF_none (And.intro @conv_int (And.intro @bin_mul (And.intro @bin_add (And.intro @bin_sub (And.intro @bin_lss (And.intro @bin_leq (And.intro @bin_gtr (And.intro @bin_geq (And.intro @bin_eql (And.intro @bin_neq (And.intro @natOf_cast (And.intro @osel_some (And.intro @results_t (And.intro @results_nil (And.intro @oneOf_one (And.intro @oneOf_two (And.intro @valsOf_nil (And.intro @valsOf_cons (And.intro @argsIn_nil (And.intro @argsIn_cons (And.intro @contQ_some (And.intro @isB_bool (And.intro @isB_undef (And.intro @beq_tt (And.intro @beq_ff (And.intro @beq_tf (And.intro @beq_ft (And.intro @isLoad_mv (And.intro @isLoad_bin (And.intro @isLoad_iaddr (And.intro @isLoad_ld (And.intro @isLoad_lenSl (And.intro @isLoad_int (And.intro @isLoad_slc (And.intro @isLoad_extract (And.intro @isLoad_pick (And.intro @isLoad_fld (And.intro @isLoad_un (And.intro @same_int (And.intro @same_bool (And.intro @same_ptr (And.intro @same_sl (And.intro @same_nilsl (And.intro @Bool.false_eq_true (And.intro @false_implies (And.intro @true_implies (And.intro @true_and (And.intro @and_true (And.intro @Int.ofNat_eq_natCast (And.intro @Int.cast_ofNat_Int (And.intro @Int.natCast_zero (And.intro @Int.natCast_one (And.intro (@bsel_true (T AB)) (And.intro (@bsel_false (T AB)) (And.intro (@bsel_true AV) (And.intro (@bsel_false AV) (And.intro (@List.nil_append AV) (And.intro (@List.cons_append AV) (And.intro (@List.append_nil AV) (And.intro (@List.nil_append Nat) (And.intro (@List.cons_append Nat) (@List.append_nil Nat)))))))))))))))))))))))))))))))))))))))))))))))))))))))))))))))))))))))))))))))
end Go.Ev.Gl

namespace Go.Ev.Gl
variable {fns : T AFn}

def GuessI (S : St) (u v : AV) (m y1 top q : Nat) (k : Nat) (A : Act') (S' : St) : Prop :=
  A.inr = false ∧ ∃ g r, tmpV 0 A.F = u ∧ tmpV 1 A.F = v ∧ tmpV 5 A.F = .int .i64 ((m + 2 : Nat) : Int) ∧ tmpV 7 A.F = .int .u64 ((g : Nat) : Int) ∧ tmpV 8 A.F = .int .u64 ((r : Nat) : Int) ∧ g * y1 + r = top ∧ q ≤ g ∧ k = g ∧ g ≤ 1000000001 ∧ r < 2000000000 ∧ S'.h = S.h ∧ S.nx ≤ S'.nx

def MsubI (b off : Nat) (S : St) (v : AV) (m g : Nat) (p u0 w lv : List Nat) (u : AV) (k : Nat) (A : Act') (S' : St) : Prop :=
  A.inr = false ∧ ∃ (i : Nat) (d : List Nat) (c : Nat), i + k = m + 2 ∧ d.length = i ∧ tmpV 0 A.F = u ∧ tmpV 1 A.F = v ∧ tmpV 5 A.F = .int .i64 ((m + 2 : Nat) : Int) ∧ tmpV 7 A.F = .int .u64 ((g : Nat) : Int) ∧ tmpV 9 A.F = .int .u64 ((c : Nat) : Int) ∧ tmpV 85 A.F = v ∧ tmpV 86 A.F = .int .i64 ((m + 2 : Nat) : Int) ∧ tmpV 87 A.F = .int .i64 ((i : Nat) : Int) ∧
    SameBut b S S' ∧ S'.h.get b = some (.cells (cells32 (p ++ (d ++ u0.drop i) ++ w)) false 0) ∧ Small d ∧ c < B ∧ val d + g * val (lv.take i) = val (u0.take i) + c * B ^ i

def MaddI (b off : Nat) (S : St) (v : AV) (m g : Nat) (p u0 w lv : List Nat) (u : AV) (k : Nat) (A : Act') (S' : St) : Prop :=
  A.inr = false ∧ ∃ (i : Nat) (d : List Nat) (c : Nat), i + k = m + 2 ∧ d.length = i ∧ tmpV 0 A.F = u ∧ tmpV 5 A.F = .int .i64 ((m + 2 : Nat) : Int) ∧ tmpV 7 A.F = .int .u64 ((g : Nat) : Int) ∧ tmpV 14 A.F = .int .u32 ((c : Nat) : Int) ∧ tmpV 130 A.F = v ∧ tmpV 131 A.F = .int .i64 ((m + 2 : Nat) : Int) ∧ tmpV 132 A.F = .int .i64 ((i : Nat) : Int) ∧
    SameBut b S S' ∧ S'.h.get b = some (.cells (cells32 (p ++ (d ++ u0.drop i) ++ w)) false 0) ∧ Small d ∧ c ≤ 1 ∧ val d + c * B ^ i = val (u0.take i) + val (lv.take i)

theorem digit_spec {S : St} {b off m cap bv : Nat} {p u w lv : List Nat} (hfn : fns.get 121 = some a121) (hblk : S.h.get b = some (.cells (cells32 (p ++ u ++ w)) false 0)) (hv : S.h.get bv = some (.cells (cells32 lv) false 0)) (hne : bv ≠ b) (hbv : bv < S.nx)
    (hm : lv.length = m + 2) (hu : u.length = m + 3) (hp : p.length = off) (hmm : m ≤ 100000) (hus : Small u) (hvs : Small lv) (htop : B ≤ 2 * lv[m + 1]?.getD 0) (hlt : val u < val lv * B) :
    wpf fns (.fn 121 [] []) [.sl b off (m + 3) cap false, .sl bv 0 (m + 2) (m + 2) false] S fun r S' => r = .int .u32 ((val u / val lv : Nat) : Int) ∧ val u / val lv < B ∧
      ∃ d, d.length = m + 2 ∧ S'.h.get b = some (.cells (cells32 (p ++ (d ++ [0]) ++ w)) false 0) ∧ Small d ∧ val d = val u % val lv ∧ SameBut b S S' := by
  have hB : B = 1000000000 := rfl
  -- the limbs
  have hu0 := getD_lt hus (m + 2)
  have hu1 := getD_lt hus (m + 1)
  have hu2 := getD_lt hus m
  have hv1 := getD_lt hvs (m + 1)
  have hv2 := getD_lt hvs m
  have eU0 : val u = val (u.take (m + 2)) + B ^ (m + 2) * u[m + 2]?.getD 0 := by
    have := val_take_get u (m + 2); rwa [List.take_of_length_le (by omega)] at this
  have hdr : u.drop (m + 2) = [u[m + 2]?.getD 0] := by
    have h : m + 2 < u.length := by omega
    rw [List.drop_eq_getElem_cons h, List.drop_of_length_le (by omega), List.getElem?_eq_getElem h]; rfl
  have eU1 := val_take_get u (m + 1)
  have eU2 := val_take_get u m
  have eV1 : val lv = val (lv.take (m + 1)) + B ^ (m + 1) * lv[m + 1]?.getD 0 := by
    have := val_take_get lv (m + 1); rwa [List.take_of_length_le (by omega)] at this
  have eV2 := val_take_get lv m
  have lU : val (u.take m) < B ^ m := by have := val_lt (hus.take m); rwa [List.length_take, Nat.min_eq_left (by omega)] at this
  have lV : val (lv.take m) < B ^ m := by have := val_lt (hvs.take m); rwa [List.length_take, Nat.min_eq_left (by omega)] at this
  have lUn : val (u.take (m + 2)) < B ^ (m + 2) := by have := val_lt (hus.take (m + 2)); rwa [List.length_take, Nat.min_eq_left (by omega)] at this
  have lVn : val lv < B ^ (m + 2) := by have := val_lt hvs; rwa [hm] at this
  have gU : ∀ i, i < m + 3 → (p ++ u ++ w)[off + i]? = u[i]? := fun i hi => win_get hp (by omega)
  have gl : ∀ i, i < m + 3 → off + i < (p ++ u ++ w).length := fun i hi => win_len hp (by omega)
  have ldU : ∀ i, i < m + 3 → qLdV (.ptr b (off + i * 1)) false 1 S.h = some (.int .u32 ((u[i]?.getD 0 : Nat) : Int)) := fun i hi => by
    rw [Nat.mul_one]; have := ld_at hblk (gl i hi); rwa [gU i hi] at this
  have ldV : ∀ i, i < m + 2 → qLdV (.ptr bv (0 + i * 1)) false 1 S.h = some (.int .u32 ((lv[i]?.getD 0 : Nat) : Int)) := fun i hi => by
    rw [Nat.mul_one, Nat.zero_add]; exact ld_at hv (by omega)
  have l0 := ldU (m + 2) (by omega)
  have l1 := ldU (m + 1) (by omega)
  have l2 := ldU m (by omega)
  have k1 := ldV (m + 1) (by omega)
  have k2 := ldV m (by omega)
  generalize u[m + 2]?.getD 0 = x0 at *
  generalize u[m + 1]?.getD 0 = x1 at *
  generalize u[m]?.getD 0 = x2 at *
  generalize lv[m + 1]?.getD 0 = y1 at *
  generalize lv[m]?.getD 0 = y2 at *
  have ia : ∀ i, i < m + 3 → iaddrV (.slice 1) (.sl b off (m + 3) cap false) i = some (.ptr b (off + i * 1)) := fun i hi => iaddr_own hi
  have iv : ∀ i, i < m + 2 → iaddrV (.slice 1) (.sl bv 0 (m + 2) (m + 2) false) i = some (.ptr bv (0 + i * 1)) := fun i hi => iaddr_own hi
  -- sums
  obtain ⟨U, hU⟩ : ∃ U, val u = U := ⟨_, rfl⟩
  obtain ⟨V, hV⟩ : ∃ V, val lv = V := ⟨_, rfl⟩
  have ep1 : B ^ (m + 1) = B ^ m * B := Nat.pow_succ ..
  have ep2 : B ^ (m + 2) = B ^ m * B * B := by rw [Nat.pow_succ, Nat.pow_succ]
  have fU : U = ((x0 * B + x1) * B + x2) * B ^ m + val (u.take m) := by rw [← hU, eU0, eU1, eU2, ep1, ep2]; grind
  have fV : V = (y1 * B + y2) * B ^ m + val (lv.take m) := by rw [← hV, eV1, eV2, ep1]; grind
  rw [hU, hV] at hlt
  rw [hU, hV]
  rw [hV] at lVn
  have hVp : 0 < V := by
    rcases Nat.eq_zero_or_pos V with h | h
    · rw [h] at hlt; omega
    · exact h
  have hq1 : U / V * V ≤ U := Nat.div_mul_le_self ..
  have hq2 : U < (U / V + 1) * V := by rw [Nat.mul_comm]; exact Nat.lt_mul_div_succ U hVp
  have hqB : U / V < B := by rw [Nat.div_lt_iff_lt_mul hVp, Nat.mul_comm]; exact hlt
  have hrem : U % V = U - U / V * V := by have := Nat.div_add_mod U V; rw [Nat.mul_comm] at this; omega
  rw [hrem]
  generalize U / V = q at *
  obtain ⟨P, hP⟩ : ∃ P, B ^ m = P := ⟨_, rfl⟩
  have hPp : 0 < P := by rw [← hP]; exact Nat.pow_pos B_pos
  rw [hP] at fU fV lU lV ep1 ep2
  rw [ep2] at lVn lUn
  have ht64 : x0 * 1000000000 ≤ 999999999 * 1000000000 := Nat.mul_le_mul_right _ (by omega)
  obtain ⟨top, htp⟩ : ∃ top, x0 * 1000000000 + x1 = top := ⟨_, rfl⟩
  have htp' : x0 * B + x1 = top := htp
  rw [htp'] at fU
  -- the leading limb is at most that of the divisor
  have hx0 : x0 ≤ y1 := by
    rcases Nat.lt_or_ge y1 x0 with h | h
    · exfalso
      have h1 : (y1 + 1) * (B * B * P) ≤ x0 * (B * B * P) := Nat.mul_le_mul_right _ h
      have e1 : x0 * (B * B * P) ≤ U := by rw [fU, ← htp']; have : (((x0 * B + x1) * B + x2) * P) = x0 * (B * B * P) + (x1 * B + x2) * P := by grind
                                           omega
      have e2 : V * B ≤ (y1 + 1) * (B * B * P) := by
        have a1 : y2 * P + P ≤ B * P := by have := Nat.mul_le_mul_right P (show y2 + 1 ≤ B by omega); rw [Nat.add_mul] at this; omega
        have a2 : V ≤ (y1 + 1) * (B * P) := by rw [fV]; have : (y1 * B + y2) * P = y1 * (B * P) + y2 * P := by grind
                                               have e := Nat.add_mul y1 1 (B * P)
                                               omega
        have a3 : V * B ≤ (y1 + 1) * (B * P) * B := Nat.mul_le_mul_right _ a2
        have : (y1 + 1) * (B * P) * B = (y1 + 1) * (B * B * P) := by grind
        omega
      omega
    · exact h
  have hy1p : 0 < y1 := by omega
  refine wpf_fn hfn (by simp) ?_
  simp only [↓stU, stD, reduceEqDiff, ↓reduceIte]
  refine wsr ?_
  simp only [↓stU, stD, reduceEqDiff, ↓reduceIte]
  refine wsr ?_
  have hlv : lenSlV (.sl bv 0 (m + 2) (m + 2) false) = some (.int .i64 ((m + 2 : Nat) : Int)) := rfl
  simp only [↓stU, stD, reduceEqDiff, ↓reduceIte, hlv]
  have wn1 : IntKind.i64.wrap (((m + 2 : Nat) : Int) - 1) = ((m + 1 : Nat) : Int) := by rw [wrap_i64 (by omega) (by omega)]; omega
  have wn2 : IntKind.i64.wrap (((m + 2 : Nat) : Int) - 2) = ((m : Nat) : Int) := by rw [wrap_i64 (by omega) (by omega)]; omega
  have wx0 : IntKind.u64.wrap (x0 : Int) = (x0 : Int) := wrap_u64 (by omega) (by omega)
  have wx1 : IntKind.u64.wrap (x1 : Int) = (x1 : Int) := wrap_u64 (by omega) (by omega)
  have wx2 : IntKind.u64.wrap (x2 : Int) = (x2 : Int) := wrap_u64 (by omega) (by omega)
  have wy1 : IntKind.u64.wrap (y1 : Int) = (y1 : Int) := wrap_u64 (by omega) (by omega)
  have wy2 : IntKind.u64.wrap (y2 : Int) = (y2 : Int) := wrap_u64 (by omega) (by omega)
  have wt1 : IntKind.u64.wrap ((x0 : Int) * 1000000000) = ((x0 * 1000000000 : Nat) : Int) := by rw [wrap_u64 (by omega) (by omega)]; omega
  have wt2 : IntKind.u64.wrap (((x0 * 1000000000 : Nat) : Int) + (x1 : Int)) = (top : Int) := by rw [wrap_u64 (by omega) (by omega)]; omega
  have hquo := bin_quo_u64 (.p .int) (t := top) (d := y1) (by omega) hy1p
  have hrm := bin_rem_u64 (.p .int) (t := top) (d := y1) hy1p
  have hdm : top / y1 * y1 + top % y1 = top := by rw [Nat.mul_comm]; exact Nat.div_add_mod top y1
  have hml : top % y1 < y1 := Nat.mod_lt _ hy1p
  have hg0 : top / y1 ≤ 1000000001 := by
    have : top / y1 < 1000000002 := by
      rw [Nat.div_lt_iff_lt_mul hy1p]
      have : x0 * 1000000000 ≤ y1 * 1000000000 := Nat.mul_le_mul_right _ hx0
      omega
    omega
  generalize top / y1 = g0 at hquo hdm hg0
  generalize top % y1 = r0 at hrm hdm hml
  refine wpc_seq (wpc_drq ?_)
  simp only [↓stU, stD, reduceEqDiff, ↓reduceIte, ia _ (show m + 2 < m + 3 by omega), ia _ (show m + 1 < m + 3 by omega), l0, l1, wn1, wx0, wx1, wt1, wt2]
  refine wpc_seq (wpc_drq ?_)
  simp only [↓stU, stD, reduceEqDiff, ↓reduceIte, iv _ (show m + 1 < m + 2 by omega), k1, wn1, wy1, hquo, hrm]
  have hge0 : q ≤ g0 := guess_ge (U := U) (V := V) (p := B * P) (lu := x2 * P + val (u.take m)) (v1 := y1) (top := top) (r := r0) (by rw [fU]; grind) (by
      have := Nat.mul_le_mul_right P (show x2 + 1 ≤ B by omega)
      rw [Nat.add_mul] at this; omega) (by rw [fV]; have : (y1 * B + y2) * P = y1 * (B * P) + y2 * P := by grind
                                           omega) hq1 hdm hml
  refine wpc_seq (wpc_mono (Q := fun o A' S' => o = .normal ∧ A'.inr = false ∧ ∃ g, tmpV 0 A'.F = .sl b off (m + 3) cap false ∧ tmpV 1 A'.F = .sl bv 0 (m + 2) (m + 2) false ∧ tmpV 5 A'.F = .int .i64 ((m + 2 : Nat) : Int) ∧ tmpV 7 A'.F = .int .u64 ((g : Nat) : Int) ∧ g < B ∧ q ≤ g ∧ g * V ≤ U + V ∧ S'.h = S.h ∧ S.nx ≤ S'.nx) ?_ ?_)
  · refine wpc_block (wpc_loop (GuessI S (.sl b off (m + 3) cap false) (.sl bv 0 (m + 2) (m + 2) false) m y1 top q) ?_ g0 _ _ ⟨rfl, g0, r0, by simp, by simp, by simp, by simp, by simp, hdm, hge0, rfl, hg0, by omega, rfl, by simp; omega⟩)
    rintro k ⟨F, inr⟩ S' ⟨q0, g, r, p0, p1, p5, p7, p8, hgr, hqg, rfl, hgB, hrB, hh, hnx⟩
    simp only at q0 p0 p1 p5 p7 p8
    subst q0
    have hgy : k * y2 ≤ 1000000001 * 999999999 := Nat.mul_le_mul hgB (by omega)
    have wg : IntKind.u64.wrap ((k : Int) * (y2 : Int)) = ((k * y2 : Nat) : Int) := by rw [← Int.natCast_mul]; exact wrap_u64 (by omega) (by omega)
    have wr : IntKind.u64.wrap ((r : Int) * 1000000000) = ((r * 1000000000 : Nat) : Int) := by rw [wrap_u64 (by omega) (by omega)]; omega
    have wr2 : IntKind.u64.wrap (((r * 1000000000 : Nat) : Int) + (x2 : Int)) = ((r * 1000000000 + x2 : Nat) : Int) := by rw [wrap_u64 (by omega) (by omega)]; omega
    have fin : ∀ (hex : ¬ (r < 1000000000 ∧ (1000000000 ≤ k ∨ r * 1000000000 + x2 < k * y2))), k < B ∧ k * V ≤ U + V := by
      intro hex
      have hkB : k < B := by
        rcases Nat.lt_or_ge k B with h | h
        · exact h
        · exfalso
          have h1 : 1000000000 * y1 ≤ k * y1 := Nat.mul_le_mul_right _ h
          have h2 : x0 * 1000000000 ≤ y1 * 1000000000 := Nat.mul_le_mul_right _ hx0
          have : r < 1000000000 := by omega
          exact hex ⟨this, .inl h⟩
      refine ⟨hkB, guess_le (lu := val (u.take m)) (lv := val (lv.take m)) (c := B) (v1 := y1) (v2 := y2) (u2 := x2) (p := P) (r := r) fU fV lV hgr (by omega) hy1p ?_⟩
      rcases Nat.lt_or_ge r B with h | h
      · rcases Nat.lt_or_ge (r * 1000000000 + x2) (k * y2) with h2 | h2
        · exact absurd ⟨h, .inr h2⟩ hex
        · exact h2
      · have h1 : k * y2 ≤ B * B := Nat.mul_le_mul (by omega) (by omega)
        have h2 : B * B ≤ r * B := Nat.mul_le_mul_right _ h
        omega
    have step : ∀ (h : r < 1000000000 ∧ (1000000000 ≤ k ∨ r * 1000000000 + x2 < k * y2)), q < k := by
      rintro ⟨_, h | h⟩
      · omega
      · exact guess_gt (lu := val (u.take m)) (c := B) (v1 := y1) (v2 := y2) (u2 := x2) (p := P) (r := r) fU lU (by omega) hq1 hgr hqg h
    refine wpc_seq (wpc_seq (wpc_drq ?_))
    have iy := iv _ (show m < m + 2 by omega)
    have ix := ia _ (show m < m + 3 by omega)
    have iy1 := iv _ (show m + 1 < m + 2 by omega)
    have out : ∀ (hex : ¬ (r < 1000000000 ∧ (1000000000 ≤ k ∨ r * 1000000000 + x2 < k * y2))) (F' : Fr) (S'' : St), tmpV 0 F' = .sl b off (m + 3) cap false → tmpV 1 F' = .sl bv 0 (m + 2) (m + 2) false → tmpV 5 F' = .int .i64 ((m + 2 : Nat) : Int) → tmpV 7 F' = .int .u64 ((k : Nat) : Int) → tmpV 74 F' = .bool false → S''.h = S.h → S.nx ≤ S''.nx →
        wpc fns (.cond (.t 74) .skip (.exit 0)) ⟨F', false⟩ S'' (thenQ fns (.block 1 (.seq (.reg [⟨(some 75),(.q (.mv (.t 7))),none,0⟩, ⟨(some 76),(.q (.bin .sub (.p .int) (.t 75) (.c (.int .u64 1)))),none,0⟩, ⟨(some 7),(.q (.mv (.t 76))),none,0⟩])
          (.reg [⟨(some 77),(.q (.mv (.t 8))),none,0⟩, ⟨(some 78),(.q (.mv (.t 1))),none,0⟩, ⟨(some 79),(.q (.mv (.t 5))),none,0⟩, ⟨(some 80),(.q (.bin .sub (.p .int) (.t 79) (.c (.int .i64 1)))),none,0⟩, ⟨(some 81),(.q (.iaddr (.slice 1) (.t 78) (.t 80))),none,0⟩, ⟨(some 82),(.q (.ld false 1 (.t 81))),none,0⟩, ⟨(some 83),(.q (.conv (.int .u64) (.t 82))),none,0⟩, ⟨(some 84),(.q (.bin .add (.p .int) (.t 77) (.t 83))),none,0⟩, ⟨(some 8),(.q (.mv (.t 84))),none,0⟩])))
          (roundQ (GuessI S (.sl b off (m + 3) cap false) (.sl bv 0 (m + 2) (m + 2) false) m y1 top q) k (blockQ 0 fun o A' S' => o = .normal ∧ A'.inr = false ∧ ∃ g, tmpV 0 A'.F = .sl b off (m + 3) cap false ∧ tmpV 1 A'.F = .sl bv 0 (m + 2) (m + 2) false ∧ tmpV 5 A'.F = .int .i64 ((m + 2 : Nat) : Int) ∧ tmpV 7 A'.F = .int .u64 ((g : Nat) : Int) ∧ g < B ∧ q ≤ g ∧ g * V ≤ U + V ∧ S'.h = S.h ∧ S.nx ≤ S'.nx))) := by
      intro hex F' S'' t0 t1 t5 t7 t74 s1 s2
      refine wpc_non (by rw [val_t, t74]) (wpc_exit ?_)
      simp only [↓stU, stD, reduceEqDiff, ↓reduceIte]
      exact ⟨k, t0, t1, t5, t7, (fin hex).1, hqg, (fin hex).2, s1, s2⟩
    have inn : ∀ (hex : r < 1000000000 ∧ (1000000000 ≤ k ∨ r * 1000000000 + x2 < k * y2)) (F' : Fr) (S'' : St), tmpV 0 F' = .sl b off (m + 3) cap false → tmpV 1 F' = .sl bv 0 (m + 2) (m + 2) false → tmpV 5 F' = .int .i64 ((m + 2 : Nat) : Int) → tmpV 7 F' = .int .u64 ((k : Nat) : Int) → tmpV 8 F' = .int .u64 ((r : Nat) : Int) → tmpV 74 F' = .bool true → S''.h = S.h → S.nx ≤ S''.nx →
        wpc fns (.cond (.t 74) .skip (.exit 0)) ⟨F', false⟩ S'' (thenQ fns (.block 1 (.seq (.reg [⟨(some 75),(.q (.mv (.t 7))),none,0⟩, ⟨(some 76),(.q (.bin .sub (.p .int) (.t 75) (.c (.int .u64 1)))),none,0⟩, ⟨(some 7),(.q (.mv (.t 76))),none,0⟩])
          (.reg [⟨(some 77),(.q (.mv (.t 8))),none,0⟩, ⟨(some 78),(.q (.mv (.t 1))),none,0⟩, ⟨(some 79),(.q (.mv (.t 5))),none,0⟩, ⟨(some 80),(.q (.bin .sub (.p .int) (.t 79) (.c (.int .i64 1)))),none,0⟩, ⟨(some 81),(.q (.iaddr (.slice 1) (.t 78) (.t 80))),none,0⟩, ⟨(some 82),(.q (.ld false 1 (.t 81))),none,0⟩, ⟨(some 83),(.q (.conv (.int .u64) (.t 82))),none,0⟩, ⟨(some 84),(.q (.bin .add (.p .int) (.t 77) (.t 83))),none,0⟩, ⟨(some 8),(.q (.mv (.t 84))),none,0⟩])))
          (roundQ (GuessI S (.sl b off (m + 3) cap false) (.sl bv 0 (m + 2) (m + 2) false) m y1 top q) k (blockQ 0 fun o A' S' => o = .normal ∧ A'.inr = false ∧ ∃ g, tmpV 0 A'.F = .sl b off (m + 3) cap false ∧ tmpV 1 A'.F = .sl bv 0 (m + 2) (m + 2) false ∧ tmpV 5 A'.F = .int .i64 ((m + 2 : Nat) : Int) ∧ tmpV 7 A'.F = .int .u64 ((g : Nat) : Int) ∧ g < B ∧ q ≤ g ∧ g * V ≤ U + V ∧ S'.h = S.h ∧ S.nx ≤ S'.nx))) := by
      intro hex F' S'' t0 t1 t5 t7 t8 t74 s1 s2
      have hk := step hex
      refine wpc_yes (by rw [val_t, t74]) (wpc_skip ?_)
      simp only [↓stU, stD, reduceEqDiff, ↓reduceIte]
      have wk : IntKind.u64.wrap ((k : Int) - 1) = ((k - 1 : Nat) : Int) := by rw [wrap_u64 (by omega) (by omega)]; omega
      have wr3 : IntKind.u64.wrap ((r : Int) + (y1 : Int)) = ((r + y1 : Nat) : Int) := by rw [wrap_u64 (by omega) (by omega)]; omega
      refine wpc_block (wpc_seq (wpc_reg ?_))
      simp only [↓stU, stD, reduceEqDiff, ↓reduceIte, t7, wk]
      refine wpc_reg ?_
      simp only [↓stU, stD, reduceEqDiff, ↓reduceIte, t1, t5, t8, wn1, iy1, s1, k1, wy1, wr3]
      have hky : (k - 1) * y1 + (r + y1) = top := by
        have : k * y1 = (k - 1) * y1 + y1 := by
          obtain ⟨j, rfl⟩ : ∃ j, k = j + 1 := ⟨k - 1, by omega⟩
          rw [Nat.add_sub_cancel, Nat.add_mul]; omega
        omega
      exact ⟨k - 1, by omega, rfl, k - 1, r + y1, by simp [t0], by simp [t1], by simp only [↓stU, stD, reduceEqDiff, ↓reduceIte, t5], by simp only [↓stU, stD, reduceEqDiff, ↓reduceIte], by simp only [↓stU, stD, reduceEqDiff, ↓reduceIte], hky, by omega, rfl, by omega, by omega, s1, s2⟩
    by_cases c1 : r < 1000000000
    · have d1 : decide ((r : Int) < 1000000000) = true := decide_eq_true (by omega)
      by_cases c2 : 1000000000 ≤ k
      · have d2 : decide ((1000000000 : Int) ≤ (k : Int)) = true := decide_eq_true (by omega)
        simp only [↓stU, stD, reduceEqDiff, ↓reduceIte, p7, p8, d1, d2]
        exact inn ⟨c1, .inl c2⟩ _ _ (by simp [p0]) (by simp [p1]) (by simp only [↓stU, stD, reduceEqDiff, ↓reduceIte, p5]) (by simp only [↓stU, stD, reduceEqDiff, ↓reduceIte, p7]) (by simp only [↓stU, stD, reduceEqDiff, ↓reduceIte, p8]) (by simp only [↓stU, stD, reduceEqDiff, ↓reduceIte]) hh (by simp; omega)
      · have d2 : decide ((1000000000 : Int) ≤ (k : Int)) = false := decide_eq_false (by omega)
        by_cases c3 : r * 1000000000 + x2 < k * y2
        · have d3 : decide (((r * 1000000000 + x2 : Nat) : Int) < ((k * y2 : Nat) : Int)) = true := decide_eq_true (Int.ofNat_lt.2 c3)
          simp only [↓stU, stD, reduceEqDiff, ↓reduceIte, p0, p1, p5, p7, p8, d1, d2, wn2, iy, ix, hh, k2, l2, wy2, wx2, wg, wr, wr2, d3]
          exact inn ⟨c1, .inr c3⟩ _ _ (by simp [p0]) (by simp [p1]) (by simp only [↓stU, stD, reduceEqDiff, ↓reduceIte, p5]) (by simp only [↓stU, stD, reduceEqDiff, ↓reduceIte, p7]) (by simp only [↓stU, stD, reduceEqDiff, ↓reduceIte, p8]) (by simp only [↓stU, stD, reduceEqDiff, ↓reduceIte]) rfl (by simp; omega)
        · have d3 : decide (((r * 1000000000 + x2 : Nat) : Int) < ((k * y2 : Nat) : Int)) = false := decide_eq_false (fun h => c3 (Int.ofNat_lt.1 h))
          simp only [↓stU, stD, reduceEqDiff, ↓reduceIte, p0, p1, p5, p7, p8, d1, d2, wn2, iy, ix, hh, k2, l2, wy2, wx2, wg, wr, wr2, d3]
          exact out (by omega) _ _ (by simp [p0]) (by simp [p1]) (by simp only [↓stU, stD, reduceEqDiff, ↓reduceIte, p5]) (by simp only [↓stU, stD, reduceEqDiff, ↓reduceIte, p7]) (by simp only [↓stU, stD, reduceEqDiff, ↓reduceIte]) rfl (by simp; omega)
    · have d1 : decide ((r : Int) < 1000000000) = false := decide_eq_false (by omega)
      simp only [↓stU, stD, reduceEqDiff, ↓reduceIte, p8, d1]
      exact out (by omega) _ _ (by simp [p0]) (by simp [p1]) (by simp only [↓stU, stD, reduceEqDiff, ↓reduceIte, p5]) (by simp only [↓stU, stD, reduceEqDiff, ↓reduceIte, p7]) (by simp only [↓stU, stD, reduceEqDiff, ↓reduceIte]) hh (by simp; omega)
  rintro o ⟨F, inr⟩ S1 ⟨rfl, q0, g, p0, p1, p5, p7, hgB, hqg, hgV, hh, hnx⟩
  simp only at q0 p0 p1 p5 p7
  subst q0
  simp only [↓stU, stD, reduceEqDiff, ↓reduceIte]
  have hlu : u.length = m + 3 := hu
  have dok := fun (ul cr : Nat) (hul : ul < P * B * B) (hi : ul + g * V = val (u.take (m + 2)) + cr * (P * B * B)) => digit_ok (U := U) (V := V) (q := q) (g := g) (ul := ul) (uo := val (u.take (m + 2))) (x := x0) (cr := cr) (P := P * B * B) (by rw [← hU, eU0, ep2, Nat.mul_comm x0]) hq1 hq2 lVn hqg hgV hi hul
  refine wsr ?_
  simp only [↓stU, stD, reduceEqDiff, ↓reduceIte]
  refine wpc_seq (wpc_mono (Q := fun o A' S' => o = .normal ∧ A'.inr = false ∧ ∃ (d : List Nat) (c : Nat), d.length = m + 2 ∧ tmpV 0 A'.F = .sl b off (m + 3) cap false ∧ tmpV 1 A'.F = .sl bv 0 (m + 2) (m + 2) false ∧ tmpV 5 A'.F = .int .i64 ((m + 2 : Nat) : Int) ∧ tmpV 7 A'.F = .int .u64 ((g : Nat) : Int) ∧ tmpV 9 A'.F = .int .u64 ((c : Nat) : Int) ∧
      SameBut b S S' ∧ S'.h.get b = some (.cells (cells32 (p ++ (d ++ [x0]) ++ w)) false 0) ∧ Small d ∧ c < B ∧ val d + g * V = val (u.take (m + 2)) + c * (P * B * B)) ?_ ?_)
  · refine wsr ?_
    simp only [↓stU, stD, reduceEqDiff, ↓reduceIte, p1, hlv]
    refine wpc_block (wpc_loop (MsubI b off S (.sl bv 0 (m + 2) (m + 2) false) m g p u w lv (.sl b off (m + 3) cap false)) ?_ (m + 2) _ _ ⟨rfl, 0, [], 0, by omega, rfl, by simp [p0], by simp [p1], by simp only [↓stU, stD, reduceEqDiff, ↓reduceIte, p5], by simp only [↓stU, stD, reduceEqDiff, ↓reduceIte, p7], by simp, by simp, by simp only [↓stU, stD, reduceEqDiff, ↓reduceIte], by simp, ⟨hnx, fun c _ _ => by rw [hh]⟩, (by show S1.h.get b = _; rw [hh, hblk]; simp), Small.nil, B_pos, by simp [val_nil]⟩)
    rintro k ⟨F, inr⟩ S2 ⟨q0, i, d, c, hik, hd, p0, p1, p5, p7, p9, p85, p86, p87, hS, hb2, hds, hcB, hinv⟩
    simp only at q0 p0 p1 p5 p7 p9 p85 p86 p87
    subst q0
    have hv' : S2.h.get bv = some (.cells (cells32 lv) false 0) := by rw [hS.2 bv hbv hne]; exact hv
    refine wsr ?_
    by_cases hi : i < m + 2
    · have d1 : decide ((i : Int) < ((m + 2 : Nat) : Int)) = true := decide_eq_true (by omega)
      simp only [↓stU, stD, reduceEqDiff, ↓reduceIte, p86, p87, d1]
      refine wpc_seq (wpc_yes (by simp only [↓stU, stD, reduceEqDiff, ↓reduceIte]) (wpc_skip ?_))
      simp only [↓stU, stD, reduceEqDiff, ↓reduceIte]
      have hul : i < (d ++ u.drop i).length := by simp; omega
      have ldy : qLdV (.ptr bv (0 + i * 1)) false 1 S2.h = some (.int .u32 ((lv[i]?.getD 0 : Nat) : Int)) := by rw [Nat.mul_one, Nat.zero_add]; exact ld_at hv' (by omega)
      have ldx : qLdV (.ptr b (off + i * 1)) false 1 S2.h = some (.int .u32 ((u[i]?.getD 0 : Nat) : Int)) := by
        rw [Nat.mul_one]
        have := ld_at hb2 (win_len hp hul)
        rw [win_get hp hul] at this
        rw [this]
        congr 4
        rw [List.getElem?_append_right (by omega), hd, Nat.sub_self, List.getElem?_drop]; rfl
      have hst := fun x => st_at (w := x) hb2 (win_len hp hul)
      have hy := getD_lt hvs i
      have hx := getD_lt hus i
      have etv := val_take_get lv i
      have etu := val_take_get u i
      generalize lv[i]?.getD 0 = y at *
      generalize u[i]?.getD 0 = x at *
      have hgy : g * y ≤ 999999999 * 999999999 := Nat.mul_le_mul (by omega) (by omega)
      have w1 : IntKind.u64.wrap (y : Int) = (y : Int) := wrap_u64 (by omega) (by omega)
      have w2 : IntKind.u64.wrap ((g : Int) * (y : Int)) = ((g * y : Nat) : Int) := by rw [← Int.natCast_mul]; exact wrap_u64 (by omega) (by omega)
      have w3 : IntKind.u64.wrap (((g * y : Nat) : Int) + (c : Int)) = ((g * y + c : Nat) : Int) := by rw [wrap_u64 (by omega) (by omega)]; omega
      obtain ⟨t, ht⟩ : ∃ t, g * y + c = t := ⟨_, rfl⟩
      rw [ht] at w3
      have hquo := quoB (.p .int) (t := t) (by omega)
      have hrem2 := remB (.p .int) t
      have hdm2 : t / B * B + t % B = t := by rw [Nat.mul_comm]; exact Nat.div_add_mod t B
      have hmod : t % B < 1000000000 := Nat.mod_lt t B_pos
      have hqB2 : t / B < B := by rw [Nat.div_lt_iff_lt_mul B_pos, hB]; omega
      generalize t / B = tq at hquo hdm2 hqB2
      generalize t % B = tr at hrem2 hdm2 hmod
      have w4 : IntKind.i64.wrap (x : Int) = (x : Int) := wrap_i64 (by omega) (by omega)
      have w5 : IntKind.i64.wrap (tr : Int) = (tr : Int) := wrap_i64 (by omega) (by omega)
      have w6 : IntKind.i64.wrap ((x : Int) - (tr : Int)) = (x : Int) - (tr : Int) := wrap_i64 (by omega) (by omega)
      refine wpc_seq (wpc_block (wpc_seq (wpc_reg ?_)))
      simp only [↓stU, stD, reduceEqDiff, ↓reduceIte, p85, p87, iv i hi, ldy]
      refine wsr ?_
      simp only [↓stU, stD, reduceEqDiff, ↓reduceIte, p7, p9, w1, w2, w3]
      refine wsr ?_
      simp only [↓stU, stD, reduceEqDiff, ↓reduceIte, hquo]
      refine wsr ?_
      simp only [↓stU, stD, reduceEqDiff, ↓reduceIte, p0, ia i (by omega), ldx, hrem2, w4, w5, w6]
      refine wpc_seq (wpc_mono (Q := fun o A' S'' => o = .normal ∧ S'' = S2 ∧ A'.inr = false ∧ ∃ (left c' : Nat), left + tr + tq * B = x + c' * B ∧ left < B ∧ c' < B ∧ tmpV 0 A'.F = .sl b off (m + 3) cap false ∧ tmpV 1 A'.F = .sl bv 0 (m + 2) (m + 2) false ∧ tmpV 5 A'.F = .int .i64 ((m + 2 : Nat) : Int) ∧ tmpV 7 A'.F = .int .u64 ((g : Nat) : Int) ∧ tmpV 9 A'.F = .int .u64 ((c' : Nat) : Int) ∧ tmpV 10 A'.F = .int .i64 (i : Int) ∧ tmpV 13 A'.F = .int .i64 (left : Int) ∧ tmpV 85 A'.F = .sl bv 0 (m + 2) (m + 2) false ∧ tmpV 86 A'.F = .int .i64 ((m + 2 : Nat) : Int) ∧ tmpV 87 A'.F = .int .i64 (i : Int)) ?_ ?_)
      · refine wsr ?_
        by_cases hneg : (x : Int) - (tr : Int) < 0
        · have d2 : decide ((x : Int) - (tr : Int) < 0) = true := decide_eq_true hneg
          have w7 : IntKind.i64.wrap ((x : Int) - (tr : Int) + 1000000000) = ((x + 1000000000 - tr : Nat) : Int) := by rw [wrap_i64 (by omega) (by omega)]; omega
          have w8 : IntKind.u64.wrap ((tq : Int) + 1) = ((tq + 1 : Nat) : Int) := by rw [wrap_u64 (by omega) (by omega)]; omega
          simp only [↓stU, stD, reduceEqDiff, ↓reduceIte, d2]
          refine wpc_yes (by simp only [↓stU, stD, reduceEqDiff, ↓reduceIte]) ?_
          refine wsr ?_
          simp only [↓stU, stD, reduceEqDiff, ↓reduceIte, w7]
          refine wpc_reg ?_
          simp only [↓stU, stD, reduceEqDiff, ↓reduceIte, w8]
          refine ⟨x + 1000000000 - tr, tq + 1, by rw [Nat.add_mul, hB]; omega, by omega, ?_, p0, p1, p5, p7, rfl, rfl, p85, p86, p87⟩
          have hcc : g * y ≤ 999999999 * 999999999 := hgy
          rw [hB] at hdm2 ⊢
          omega
        · have d2 : decide ((x : Int) - (tr : Int) < 0) = false := decide_eq_false hneg
          simp only [↓stU, stD, reduceEqDiff, ↓reduceIte, d2]
          refine wpc_non (by simp only [↓stU, stD, reduceEqDiff, ↓reduceIte]) (wpc_skip ?_)
          simp only [↓stU, stD, reduceEqDiff, ↓reduceIte]
          exact ⟨x - tr, tq, by omega, by omega, hqB2, p0, p1, p5, p7, rfl, (by congr 1; omega), p85, p86, p87⟩
      · rintro o ⟨F, inr⟩ S'' ⟨rfl, rfl, q0, left, c', hl, hlB, hc', p0, p1, p5, p7, p9, p10, p13, p85, p86, p87⟩
        simp only at q0 p0 p1 p5 p7 p9 p10 p13 p85 p86 p87
        subst q0
        simp only [↓stU, stD, reduceEqDiff, ↓reduceIte]
        have w9 : IntKind.u32.wrap (left : Int) = (left : Int) := wrap_u32 (by omega) (by omega)
        have hst := hst left
        have hset : (p ++ (d ++ u.drop i) ++ w).set (off + i) left = p ++ (d ++ [left] ++ u.drop (i + 1)) ++ w := by
          rw [win_set hp hul]
          have := set_mid (d := d) (u := u) (w := left) (by omega)
          rw [hd] at this
          rw [this]
        rw [hset] at hst
        refine wpc_reg ?_
        simp only [↓stU, stD, reduceEqDiff, ↓reduceIte, p0, p10, p13, w9, ia i (by omega)]
        refine wpo_x (fun call => by simp only [↓stU, stD, reduceEqDiff, ↓reduceIte, evX_st, cells_int, Nat.mul_one]; exact hst) ?_
        simp only [↓stU, stD, reduceEqDiff, ↓reduceIte]
        refine wpc_reg ?_
        have w10 : IntKind.i64.wrap ((i : Int) + 1) = ((i + 1 : Nat) : Int) := by rw [wrap_i64 (by omega) (by omega)]; omega
        simp only [↓stU, stD, reduceEqDiff, ↓reduceIte, p87, w10]
        refine ⟨k - 1, by omega, rfl, i + 1, d ++ [left], c', by omega, by simp [hd], by simp only [↓stU, stD, reduceEqDiff, ↓reduceIte, p0], by simp only [↓stU, stD, reduceEqDiff, ↓reduceIte, p1], by simp only [↓stU, stD, reduceEqDiff, ↓reduceIte, p5], by simp only [↓stU, stD, reduceEqDiff, ↓reduceIte, p7], by simp only [↓stU, stD, reduceEqDiff, ↓reduceIte, p9], by simp only [↓stU, stD, reduceEqDiff, ↓reduceIte, p85], by simp only [↓stU, stD, reduceEqDiff, ↓reduceIte, p86], by simp only [↓stU, stD, reduceEqDiff, ↓reduceIte], hS.put _, ?_, Small.append.2 ⟨hds, fun z hz => ?_⟩, hc', ?_⟩
        · simp only
          rw [T.get_set, if_pos rfl]
        · have : z = left := by simpa using hz
          rw [this]; exact hlB
        · rw [val_snoc, hd, etu, etv, Nat.pow_succ]
          exact msub_step hinv ht.symm hdm2 hl
    · have e : i = m + 2 := by omega
      subst e
      have d1 : decide (((m + 2 : Nat) : Int) < ((m + 2 : Nat) : Int)) = false := decide_eq_false (by omega)
      simp only [↓stU, stD, reduceEqDiff, ↓reduceIte, p86, p87, d1]
      refine wpc_seq (wpc_non (by simp only [↓stU, stD, reduceEqDiff, ↓reduceIte]) (wpc_exit ?_))
      simp only [↓stU, stD, reduceEqDiff, ↓reduceIte]
      rw [hdr] at hb2
      rw [List.take_of_length_le (by omega), hV, ep2] at hinv
      exact ⟨d, c, hd, p0, p1, p5, p7, p9, hS, hb2, hds, hcB, hinv⟩
  rintro o ⟨F, inr⟩ S2 ⟨rfl, q0, d, c, hd, p0, p1, p5, p7, p9, hS, hb2, hds, hcB, hinv⟩
  simp only at q0 p0 p1 p5 p7 p9
  subst q0
  simp only [↓stU, stD, reduceEqDiff, ↓reduceIte]
  have hv' : S2.h.get bv = some (.cells (cells32 lv) false 0) := by rw [hS.2 bv hbv hne]; exact hv
  have hdP : val d < P * B * B := by have := val_lt hds; rwa [hd, ep2] at this
  obtain ⟨ok1, ok2⟩ := dok (val d) c hdP hinv
  have hul : m + 2 < (d ++ [x0]).length := by simp; omega
  have ldx : qLdV (.ptr b (off + (m + 2) * 1)) false 1 S2.h = some (.int .u32 ((x0 : Nat) : Int)) := by
    rw [Nat.mul_one]
    have := ld_at hb2 (win_len hp hul)
    rw [win_get hp hul] at this
    rw [this]
    congr 4
    rw [List.getElem?_append_right (by omega), hd, Nat.sub_self]; rfl
  refine wpc_seq (wpc_mono (Q := fun o A' S' => o = .normal ∧ A'.inr = false ∧ ∃ (d' : List Nat), d'.length = m + 2 ∧ tmpV 0 A'.F = .sl b off (m + 3) cap false ∧ tmpV 5 A'.F = .int .i64 ((m + 2 : Nat) : Int) ∧ tmpV 7 A'.F = .int .u64 ((q : Nat) : Int) ∧
      SameBut b S S' ∧ S'.h.get b = some (.cells (cells32 (p ++ (d' ++ [x0]) ++ w)) false 0) ∧ Small d' ∧ val d' = U - q * V) ?_ ?_)
  · refine wsr ?_
    by_cases hxc : x0 < c
    · have d1 : decide ((x0 : Int) < (c : Int)) = true := decide_eq_true (by omega)
      obtain ⟨hg, hun⟩ := ok1 hxc
      have wg : IntKind.u64.wrap ((g : Int) - 1) = ((q : Nat) : Int) := by rw [wrap_u64 (by omega) (by omega)]; omega
      simp only [↓stU, stD, reduceEqDiff, ↓reduceIte, p0, p5, p9, ia _ (show m + 2 < m + 3 by omega), ldx, wx0, d1]
      refine wpc_yes (by simp only [↓stU, stD, reduceEqDiff, ↓reduceIte]) ?_
      refine wsr ?_
      simp only [↓stU, stD, reduceEqDiff, ↓reduceIte, p7, wg]
      refine wsr ?_
      simp only [↓stU, stD, reduceEqDiff, ↓reduceIte]
      refine wsr ?_
      simp only [↓stU, stD, reduceEqDiff, ↓reduceIte, p1, hlv]
      have hdt : (d ++ [x0]).take (m + 2) = d := by rw [← hd, List.take_left' rfl]
      refine wpc_block (wpc_loop (MaddI b off S (.sl bv 0 (m + 2) (m + 2) false) m q p (d ++ [x0]) w lv (.sl b off (m + 3) cap false)) ?_ (m + 2) _ _ ⟨rfl, 0, [], 0, by omega, rfl, by simp only [↓stU, stD, reduceEqDiff, ↓reduceIte, p0], by simp only [↓stU, stD, reduceEqDiff, ↓reduceIte, p5], by simp only [↓stU, stD, reduceEqDiff, ↓reduceIte], by simp only [↓stU, stD, reduceEqDiff, ↓reduceIte], by simp only [↓stU, stD, reduceEqDiff, ↓reduceIte], by simp only [↓stU, stD, reduceEqDiff, ↓reduceIte], by simp only [↓stU, stD, reduceEqDiff, ↓reduceIte], hS, hb2, Small.nil, by omega, by simp [val_nil]⟩)
      rintro k ⟨F, inr⟩ S3 ⟨q0, i, e, cc, hik, he, p0, p5, p7, p14, p130, p131, p132, hS3, hb3, hes, hcc, hinv3⟩
      simp only at q0 p0 p5 p7 p14 p130 p131 p132
      subst q0
      have hv3 : S3.h.get bv = some (.cells (cells32 lv) false 0) := by rw [hS3.2 bv hbv hne]; exact hv
      refine wsr ?_
      by_cases hi : i < m + 2
      · have d1 : decide ((i : Int) < ((m + 2 : Nat) : Int)) = true := decide_eq_true (by omega)
        simp only [↓stU, stD, reduceEqDiff, ↓reduceIte, p131, p132, d1]
        refine wpc_seq (wpc_yes (by simp only [↓stU, stD, reduceEqDiff, ↓reduceIte]) (wpc_skip ?_))
        simp only [↓stU, stD, reduceEqDiff, ↓reduceIte]
        have hul3 : i < (e ++ (d ++ [x0]).drop i).length := by simp; omega
        have ldy : qLdV (.ptr bv (0 + i * 1)) false 1 S3.h = some (.int .u32 ((lv[i]?.getD 0 : Nat) : Int)) := by rw [Nat.mul_one, Nat.zero_add]; exact ld_at hv3 (by omega)
        have ldx : qLdV (.ptr b (off + i * 1)) false 1 S3.h = some (.int .u32 (((d ++ [x0])[i]?.getD 0 : Nat) : Int)) := by
          rw [Nat.mul_one]
          have := ld_at hb3 (win_len hp hul3)
          rw [win_get hp hul3] at this
          rw [this]
          congr 4
          rw [List.getElem?_append_right (by omega), he, Nat.sub_self, List.getElem?_drop]; rfl
        have hst := fun x => st_at (w := x) hb3 (win_len hp hul3)
        have hds0 : Small (d ++ [x0]) := Small.append.2 ⟨hds, small_one hu0⟩
        have hy := getD_lt hvs i
        have hx := getD_lt hds0 i
        have etv := val_take_get lv i
        have etu := val_take_get (d ++ [x0]) i
        generalize lv[i]?.getD 0 = y at *
        generalize (d ++ [x0])[i]?.getD 0 = x at *
        have w1 : IntKind.u32.wrap ((x : Int) + (y : Int)) = ((x + y : Nat) : Int) := by rw [wrap_u32 (by omega) (by omega)]; omega
        have w2 : IntKind.u32.wrap (((x + y : Nat) : Int) + (cc : Int)) = ((x + y + cc : Nat) : Int) := by rw [wrap_u32 (by omega) (by omega)]; omega
        refine wpc_seq (wpc_block (wpc_seq (wpc_reg ?_)))
        simp only [↓stU, stD, reduceEqDiff, ↓reduceIte, p130, p132, iv i hi, ldy]
        refine wsr ?_
        simp only [↓stU, stD, reduceEqDiff, ↓reduceIte, p0, p14, ia i (by omega), ldx, w1, w2]
        refine wsr ?_
        simp only [↓stU, stD, reduceEqDiff, ↓reduceIte]
        refine wpc_seq (wpc_mono (Q := fun o A' S'' => o = .normal ∧ S'' = S3 ∧ A'.inr = false ∧ ∃ (left c' : Nat), left + c' * B = x + y + cc ∧ left < B ∧ c' ≤ 1 ∧ tmpV 0 A'.F = .sl b off (m + 3) cap false ∧ tmpV 5 A'.F = .int .i64 ((m + 2 : Nat) : Int) ∧ tmpV 7 A'.F = .int .u64 ((q : Nat) : Int) ∧ tmpV 14 A'.F = .int .u32 ((c' : Nat) : Int) ∧ tmpV 15 A'.F = .int .i64 (i : Int) ∧ tmpV 17 A'.F = .int .u32 (left : Int) ∧ tmpV 130 A'.F = .sl bv 0 (m + 2) (m + 2) false ∧ tmpV 131 A'.F = .int .i64 ((m + 2 : Nat) : Int) ∧ tmpV 132 A'.F = .int .i64 (i : Int)) ?_ ?_)
        · refine wsr ?_
          by_cases hge : 1000000000 ≤ x + y + cc
          · have d2 : decide ((1000000000 : Int) ≤ ((x + y + cc : Nat) : Int)) = true := decide_eq_true (by omega)
            have w7 : IntKind.u32.wrap (((x + y + cc : Nat) : Int) - 1000000000) = ((x + y + cc - 1000000000 : Nat) : Int) := by rw [wrap_u32 (by omega) (by omega)]; omega
            simp only [↓stU, stD, reduceEqDiff, ↓reduceIte, d2]
            refine wpc_yes (by simp only [↓stU, stD, reduceEqDiff, ↓reduceIte]) ?_
            refine wsr ?_
            simp only [↓stU, stD, reduceEqDiff, ↓reduceIte, w7]
            refine wpc_reg ?_
            simp only [↓stU, stD, reduceEqDiff, ↓reduceIte]
            exact ⟨x + y + cc - 1000000000, 1, by omega, by omega, by omega, p0, p5, p7, rfl, rfl, p130, p131, p132⟩
          · have d2 : decide ((1000000000 : Int) ≤ ((x + y + cc : Nat) : Int)) = false := decide_eq_false (by omega)
            simp only [↓stU, stD, reduceEqDiff, ↓reduceIte, d2]
            refine wpc_non (by simp only [↓stU, stD, reduceEqDiff, ↓reduceIte]) (wpc_skip ?_)
            simp only [↓stU, stD, reduceEqDiff, ↓reduceIte]
            exact ⟨x + y + cc, 0, by omega, by omega, by omega, p0, p5, p7, rfl, rfl, p130, p131, p132⟩
        · rintro o ⟨F, inr⟩ S'' ⟨rfl, rfl, q0, left, c', hl, hlB, hc', p0, p5, p7, p14, p15, p17, p130, p131, p132⟩
          simp only at q0 p0 p5 p7 p14 p15 p17 p130 p131 p132
          subst q0
          simp only [↓stU, stD, reduceEqDiff, ↓reduceIte]
          have hst := hst left
          have hset : (p ++ (e ++ (d ++ [x0]).drop i) ++ w).set (off + i) left = p ++ (e ++ [left] ++ (d ++ [x0]).drop (i + 1)) ++ w := by
            rw [win_set hp hul3]
            have := set_mid (d := e) (u := d ++ [x0]) (w := left) (by simp; omega)
            rw [he] at this
            rw [this]
          rw [hset] at hst
          refine wpc_reg ?_
          simp only [↓stU, stD, reduceEqDiff, ↓reduceIte, p0, p15, p17, ia i (by omega)]
          refine wpo_x (fun call => by simp only [↓stU, stD, reduceEqDiff, ↓reduceIte, evX_st, cells_int, Nat.mul_one]; exact hst) ?_
          simp only [↓stU, stD, reduceEqDiff, ↓reduceIte]
          refine wpc_reg ?_
          have w10 : IntKind.i64.wrap ((i : Int) + 1) = ((i + 1 : Nat) : Int) := by rw [wrap_i64 (by omega) (by omega)]; omega
          simp only [↓stU, stD, reduceEqDiff, ↓reduceIte, p132, w10]
          refine ⟨k - 1, by omega, rfl, i + 1, e ++ [left], c', by omega, by simp [he], by simp only [↓stU, stD, reduceEqDiff, ↓reduceIte, p0], by simp only [↓stU, stD, reduceEqDiff, ↓reduceIte, p5], by simp only [↓stU, stD, reduceEqDiff, ↓reduceIte, p7], by simp only [↓stU, stD, reduceEqDiff, ↓reduceIte, p14], by simp only [↓stU, stD, reduceEqDiff, ↓reduceIte, p130], by simp only [↓stU, stD, reduceEqDiff, ↓reduceIte, p131], by simp only [↓stU, stD, reduceEqDiff, ↓reduceIte], hS3.put _, ?_, Small.append.2 ⟨hes, fun z hz => ?_⟩, hc', ?_⟩
          · simp only
            rw [T.get_set, if_pos rfl]
          · have : z = left := by simpa using hz
            rw [this]; exact hlB
          · rw [val_snoc, he, etu, etv, Nat.pow_succ]
            exact addb_step hinv3 hl
      · have ei : i = m + 2 := by omega
        subst ei
        have d1 : decide (((m + 2 : Nat) : Int) < ((m + 2 : Nat) : Int)) = false := decide_eq_false (by omega)
        simp only [↓stU, stD, reduceEqDiff, ↓reduceIte, p131, p132, d1]
        refine wpc_seq (wpc_non (by simp only [↓stU, stD, reduceEqDiff, ↓reduceIte]) (wpc_exit ?_))
        simp only [↓stU, stD, reduceEqDiff, ↓reduceIte]
        have hdr2 : (d ++ [x0]).drop (m + 2) = [x0] := by rw [← hd, List.drop_left' rfl]
        rw [hdr2] at hb3
        rw [hdt, List.take_of_length_le (by omega), hV, ep2] at hinv3
        have heP : val e < P * B * B := by have := val_lt hes; rwa [he, ep2] at this
        exact ⟨e, he, p0, p5, p7, hS3, hb3, hes, hun (val e) cc heP hinv3⟩
    · have d1 : decide ((x0 : Int) < (c : Int)) = false := decide_eq_false (by omega)
      obtain ⟨hg, hun⟩ := ok2 hxc
      simp only [↓stU, stD, reduceEqDiff, ↓reduceIte, p0, p5, p9, ia _ (show m + 2 < m + 3 by omega), ldx, wx0, d1]
      refine wpc_non (by simp only [↓stU, stD, reduceEqDiff, ↓reduceIte]) (wpc_skip ?_)
      simp only [↓stU, stD, reduceEqDiff, ↓reduceIte]
      subst hg
      exact ⟨d, hd, p0, p5, p7, hS, hb2, hds, hun⟩
  · rintro o ⟨F, inr⟩ S3 ⟨rfl, q0, e, he, p0, p5, p7, hS3, hb3, hes, hval⟩
    simp only at q0 p0 p5 p7
    subst q0
    simp only [↓stU, stD, reduceEqDiff, ↓reduceIte]
    have hul3 : m + 2 < (e ++ [x0]).length := by simp; omega
    have hst := st_at (w := 0) hb3 (win_len hp hul3)
    have hset : (p ++ (e ++ [x0]) ++ w).set (off + (m + 2)) 0 = p ++ (e ++ [0]) ++ w := by
      rw [win_set hp hul3, ← he, List.set_append, if_neg (by omega), Nat.sub_self]; rfl
    rw [hset] at hst
    refine wsr ?_
    simp only [↓stU, stD, reduceEqDiff, ↓reduceIte, p0, p5, ia _ (show m + 2 < m + 3 by omega)]
    refine wpo_x (fun call => by simp only [↓stU, stD, reduceEqDiff, ↓reduceIte, evX_st, cells_int, Nat.mul_one]; exact hst) ?_
    simp only [↓stU, stD, reduceEqDiff, ↓reduceIte]
    have w11 : IntKind.u32.wrap (q : Int) = (q : Int) := wrap_u32 (by omega) (by omega)
    refine wsr ?_
    simp only [↓stU, stD, reduceEqDiff, ↓reduceIte, p7, w11]
    refine wpc_ret ?_
    simp only [↓stU, stD, reduceEqDiff, ↓reduceIte]
    exact ⟨hqB, e, he, (by rw [T.get_set, if_pos rfl]), hes, hval, hS3.put _⟩
end Go.Ev.Gl

namespace Go.Ev.Gl
variable {fns : T AFn}

theorem ex0 (a : AV) (l : List AV) : extractV (.tup (a :: l)) 0 = some a := rfl
theorem ex1 (a b : AV) (l : List AV) : extractV (.tup (a :: b :: l)) 1 = some b := rfl
theorem ex2 (a b c : AV) (l : List AV) : extractV (.tup (a :: b :: c :: l)) 2 = some c := rfl
theorem nat_nil {S : St} : NatIs S .nilsl 0 := ⟨[], .inl ⟨rfl, .inl rfl⟩, norm_nil, rfl⟩
theorem slc_mid {b off n cap i k : Nat} {F : Fr} {x y : Opd} (hx : natOf (x.val F) = some i) (hy : natOf (y.val F) = some k) (h1 : i ≤ k) (h2 : k ≤ cap) (h3 : i < cap) : slcV (.slice 1) (.sl b off n cap false) (some x) (some y) none F = some (.sl b (off + i * 1) (k - i) (cap - i) false) := by
  have e1 : Nat.ble cap cap = true := Nat.ble_eq_true_of_le (Nat.le_refl _)
  have e2 : Nat.ble k cap = true := Nat.ble_eq_true_of_le h2
  have e3 : Nat.ble i k = true := Nat.ble_eq_true_of_le h1
  have e4 : Nat.beq cap i = false := by rw [Bool.eq_false_iff]; intro h; rw [Nat.beq_eq] at h; omega
  simp only [slcV, slSl, bounds, optNat, osel_some, hx, hy, e1, e2, e3, bsel_true, e4, bsel_false]

/-- the factor that makes the first limb great -/
theorem factor_ok {t : Nat} (ht : 0 < t) (htB : t < B) : 0 < B / (t + 1) ∧ B / (t + 1) * (t + 1) ≤ B ∧ B ≤ 2 * (B / (t + 1) * t) ∧ B / (t + 1) ≤ 500000000 := by
  have h1 : 0 < B / (t + 1) := Nat.div_pos (by omega) (by omega)
  have h2 : B / (t + 1) * (t + 1) ≤ B := Nat.div_mul_le_self ..
  have h3 : B < (t + 1) * (B / (t + 1) + 1) := Nat.lt_mul_div_succ B (by omega)
  have hB : B = 1000000000 := rfl
  generalize B / (t + 1) = f at *
  refine ⟨h1, h2, ?_, ?_⟩
  · rcases Nat.lt_or_ge f 2 with h | h
    · have : f = 1 := by omega
      subst this
      omega
    · rcases Nat.lt_or_ge t 2 with h4 | h4
      · have : t = 1 := by omega
        subst this
        omega
      · obtain ⟨g, rfl⟩ : ∃ g, f = g + 2 := ⟨f - 2, by omega⟩
        obtain ⟨s, rfl⟩ : ∃ s, t = s + 2 := ⟨t - 2, by omega⟩
        have e1 : (s + 2 + 1) * (g + 2 + 1) = s * g + 3 * s + 3 * g + 9 := by grind
        have e2 : 2 * ((g + 2) * (s + 2)) = 2 * (s * g) + 4 * s + 4 * g + 8 := by grind
        rw [e1] at h3
        rw [e2]
        generalize s * g = z at *
        omega
  · have : f * 2 ≤ f * (t + 1) := Nat.mul_le_mul_left _ (by omega)
    omega

theorem div_end {x y f q r : Nat} (hf : 0 < f) (h : x * f = q * (y * f) + r) (hr : r < y * f) : q = x / y ∧ r / f = x % y := by
  have e1 : x * f / (y * f) = q := by
    rw [h, Nat.add_comm, Nat.add_mul_div_right _ _ (by omega), Nat.div_eq_of_lt hr]; omega
  have e2 : x * f % (y * f) = r := by rw [h, Nat.add_comm, Nat.add_mul_mod_self_right, Nat.mod_eq_of_lt hr]
  rw [Nat.mul_div_mul_right _ _ hf] at e1
  rw [Nat.mul_mod_mul_right] at e2
  refine ⟨e1.symm, ?_⟩
  rw [← e2, Nat.mul_div_cancel _ hf]

def DivI (S : St) (bu bv bq : Nat) (u lv : List Nat) (size m f V : Nat) (k : Nat) (A : Act') (S' : St) : Prop :=
  A.inr = false ∧ ∃ (r z qs : List Nat), k + (m + 2) ≤ size ∧ r.length = m + 2 ∧ k + (m + 2) + z.length = size ∧ qs.length + k + (m + 2) = size ∧ tmpV 4 A.F = .sl bq 0 (size - (m + 2)) (size - (m + 2)) false ∧ tmpV 8 A.F = .int .i64 ((m + 2 : Nat) : Int) ∧ tmpV 9 A.F = .int .u64 ((f : Nat) : Int) ∧ tmpV 10 A.F = .sl bu 0 size size false ∧ tmpV 11 A.F = .sl bv 0 (m + 2) (m + 2) false ∧ tmpV 12 A.F = .int .i64 ((k : Int) - 1) ∧
    Same S S' ∧ bu < S'.nx ∧ bv < S'.nx ∧ bq < S'.nx ∧ S'.h.get bu = some (.cells (cells32 (u.take k ++ r ++ z)) false 0) ∧ S'.h.get bv = some (.cells (cells32 lv) false 0) ∧ S'.h.get bq = some (.cells (cells32 (List.replicate k 0 ++ qs)) false 0) ∧ Small r ∧ Small qs ∧ val r < V ∧ val (u.drop k) = val qs * V + val r

theorem cmpI_lt {x y : Nat} : decide (cmpI x y < 0) = decide (x < y) := by
  unfold cmpI; split <;> (try split) <;> simp_all <;> omega

theorem div_spec {S : St} {a b : AV} {x y : Nat} (H : Has fns) (ha : NatIs S a x) (hb : NatIs S b y) (hx : Fits x) (hy0 : 0 < y) :
    wpf fns (.fn 85 [] []) [a, b] S fun r S' => ∃ qv rv, r = .tup [qv, rv] ∧ NatIs S' qv (x / y) ∧ NatIs S' rv (x % y) ∧ Same S S' := by
  have hB : B = 1000000000 := rfl
  refine wpf_fn H.f85 (by simp) ?_
  simp only [↓stU, stD, reduceEqDiff, ↓reduceIte]
  refine wsr ?_
  simp only [↓stU, stD, reduceEqDiff, ↓reduceIte]
  refine wss ?_
  simp only [↓stU, stD, reduceEqDiff, ↓reduceIte]
  refine wpo_call ?_
  simp only [↓stU, stD, reduceEqDiff, ↓reduceIte]
  refine wpf_mono (cmp_spec H.f82 ha hb hx) ?_
  rintro _ S1 ⟨rfl, hS1⟩
  simp only [↓stU, stD, reduceEqDiff, ↓reduceIte, cmpI_lt]
  by_cases hlt : x < y
  · refine wpc_yes (by simp only [↓stU, stD, reduceEqDiff, ↓reduceIte, decide_eq_true hlt]) ?_
    refine wsr ?_
    simp only [↓stU, stD, reduceEqDiff, ↓reduceIte]
    refine wpo_call ?_
    simp only [↓stU, stD, reduceEqDiff, ↓reduceIte]
    refine wpf_mono (copy_nat H.f87 (ha.same hS1) hx) ?_
    rintro rv S2 ⟨hr, hS2⟩
    try simp only [↓stU, stD, reduceEqDiff, ↓reduceIte]
    refine wpc_ret ?_
    simp only [↓stU, stD, reduceEqDiff, ↓reduceIte]
    rw [Nat.div_eq_of_lt hlt, Nat.mod_eq_of_lt hlt]
    exact ⟨.nilsl, rv, rfl, nat_nil, hr, hS1.trans hS2⟩
  refine wpc_non (by simp only [↓stU, stD, reduceEqDiff, ↓reduceIte, decide_eq_false hlt]) (wpc_skip ?_)
  simp only [↓stU, stD, reduceEqDiff, ↓reduceIte]
  have hge : y ≤ x := by omega
  obtain ⟨l, ha0, hl, rfl⟩ := ha
  obtain ⟨n, hb0, hn, rfl⟩ := hb
  have ha := ha0.same hS1
  have hb := hb0.same hS1
  have hlen := Fits.len hl hx
  have hn0 : n ≠ [] := by rintro rfl; simp [val_nil] at hy0
  have hnl : n.length ≤ l.length := by
    rcases Nat.lt_or_ge l.length n.length with h | h
    · have := val_le_of_len hl.1 hn h; omega
    · exact h
  have hnp : 0 < n.length := List.length_pos_iff.2 hn0
  refine wss ?_
  simp only [↓stU, stD, reduceEqDiff, ↓reduceIte, hb.len]
  by_cases h1 : n.length = 1
  · obtain ⟨b0, rfl⟩ := List.length_eq_one_iff.1 h1
    have d1 : decide ((([b0].length : Nat) : Int) = 1) = true := rfl
    refine wpc_yes (by simp only [↓stU, stD, reduceEqDiff, ↓reduceIte, d1]) ?_
    have hb0B : b0 < B := hn.1 b0 (by simp)
    have hvb : val [b0] = b0 := by simp [val_cons, val_nil]
    rw [hvb] at hy0 ⊢
    have hld : qLdV (elemP b 0) false 1 S1.h = some (.int .u32 ((b0 : Nat) : Int)) := by have := hb.ld (i := 0) (by simp); simpa using this
    have hia : iaddrV (.slice 1) b 0 = some (elemP b 0) := hb.iaddr (i := 0) (by simp)
    have hnat0 : natOf (.int .i64 0) = some 0 := rfl
    refine wsr ?_
    simp only [↓stU, stD, reduceEqDiff, ↓reduceIte, hnat0, hia, hld]
    refine wpo_call ?_
    simp only [↓stU, stD, reduceEqDiff, ↓reduceIte]
    refine wpf_mono (short_spec H.f122 H.f119 ha hl.1 hlen hy0 (by omega)) ?_
    rintro _ S2 ⟨qv, rfl, hq, hS2⟩
    simp only [↓stU, stD, reduceEqDiff, ↓reduceIte, ex0, ex1]
    have hmod : val l % b0 < b0 := Nat.mod_lt _ hy0
    have w1 : IntKind.u64.wrap ((val l % b0 : Nat) : Int) = ((val l % b0 : Nat) : Int) := wrap_u64 (by omega) (by omega)
    refine wsr ?_
    simp only [↓stU, stD, reduceEqDiff, ↓reduceIte, w1]
    refine wpo_call ?_
    simp only [↓stU, stD, reduceEqDiff, ↓reduceIte]
    refine wpf_mono (of_spec H.f80 (by omega)) ?_
    rintro rv S3 ⟨hr, hS3⟩
    try simp only [↓stU, stD, reduceEqDiff, ↓reduceIte]
    refine wpc_ret ?_
    simp only [↓stU, stD, reduceEqDiff, ↓reduceIte]
    exact ⟨qv, rv, rfl, hq.same hS3, hr, hS1.trans (hS2.trans hS3)⟩
  obtain ⟨m, hm⟩ : ∃ m, n.length = m + 2 := ⟨n.length - 2, by omega⟩
  have d1 : decide (((n.length : Nat) : Int) = 1) = false := decide_eq_false (by omega)
  refine wpc_non (by simp only [↓stU, stD, reduceEqDiff, ↓reduceIte, d1]) (wpc_skip ?_)
  simp only [↓stU, stD, reduceEqDiff, ↓reduceIte]
  -- the first limb and the factor
  have htl := getD_lt hn.1 (m + 1)
  have hvn : val n = val (n.take (m + 1)) + B ^ (m + 1) * n[m + 1]?.getD 0 := by
    have := val_take_get n (m + 1); rwa [List.take_of_length_le (by omega)] at this
  have hlow : val (n.take (m + 1)) < B ^ (m + 1) := by have := val_lt (hn.1.take (m + 1)); rwa [List.length_take, Nat.min_eq_left (by omega)] at this
  have htp : 0 < n[m + 1]?.getD 0 := by
    have h2 : n[m + 1]? = n.getLast? := by rw [List.getLast?_eq_getElem?]; congr 1; omega
    rcases Nat.eq_zero_or_pos (n[m + 1]?.getD 0) with h | h
    · exfalso
      have h3 : m + 1 < n.length := by omega
      rw [List.getElem?_eq_getElem h3] at h h2
      simp at h
      exact hn.2 (by rw [← h2, h])
    · exact h
  have hld := hb.ld (i := m + 1) (by omega)
  rw [List.getD_eq_getElem?_getD] at hld
  have hia := hb.iaddr (i := m + 1) (by omega)
  generalize n[m + 1]?.getD 0 = t at *
  obtain ⟨hf0, hf1, hf2, hf3⟩ := factor_ok htp htl
  have wn1 : IntKind.i64.wrap (((n.length : Nat) : Int) - 1) = ((m + 1 : Nat) : Int) := by rw [wrap_i64 (by omega) (by omega)]; omega
  have wt : IntKind.u64.wrap (t : Int) = (t : Int) := wrap_u64 (by omega) (by omega)
  have wt1 : IntKind.u64.wrap ((t : Int) + 1) = ((t + 1 : Nat) : Int) := by rw [wrap_u64 (by omega) (by omega)]; omega
  have hquo := bin_quo_u64 (.p .int) (t := B) (d := t + 1) (by omega) (by omega)
  rw [show ((B : Nat) : Int) = 1000000000 from rfl] at hquo
  generalize B / (t + 1) = f at *
  refine wsr ?_
  simp only [↓stU, stD, reduceEqDiff, ↓reduceIte, hb.len]
  refine wsr ?_
  simp only [↓stU, stD, reduceEqDiff, ↓reduceIte, wn1, hia, hld, wt, wt1, hquo]
  have wl1 : IntKind.i64.wrap (((l.length : Nat) : Int) + 1) = ((l.length + 1 : Nat) : Int) := by rw [wrap_i64 (by omega) (by omega)]; omega
  have hbig : val l * f < B ^ (l.length + 1) := by
    have h2 := val_lt hl.1
    have h3 : val l * f ≤ val l * B := Nat.mul_le_mul_left _ (by omega)
    have h4 : val l * B < B ^ l.length * B := Nat.mul_lt_mul_of_pos_right h2 B_pos
    rw [Nat.pow_succ]; omega
  have hbign : val n * f < B ^ (m + 2) := by
    have h2 : val n < B ^ (m + 1) * (t + 1) := by rw [Nat.mul_add]; omega
    have h3 : val n * f < B ^ (m + 1) * (t + 1) * f := Nat.mul_lt_mul_of_pos_right h2 hf0
    have h4 : B ^ (m + 1) * (f * (t + 1)) ≤ B ^ (m + 1) * B := Nat.mul_le_mul_left _ hf1
    have e : B ^ (m + 1) * (t + 1) * f = B ^ (m + 1) * (f * (t + 1)) := by grind
    rw [Nat.pow_succ]; omega
  refine wsr ?_
  simp only [↓stU, stD, reduceEqDiff, ↓reduceIte, ha.len, wl1]
  refine wpo_call ?_
  simp only [↓stU, stD, reduceEqDiff, ↓reduceIte]
  refine wpf_mono (times_spec H.f120 ha hl.1 (by omega) (by omega) (by omega) hbig) ?_
  rintro _ S2 ⟨u, rfl, hnx2, hu, hul, hus, huv, hS2⟩
  try simp only [↓stU, stD, reduceEqDiff, ↓reduceIte]
  refine wsr ?_
  simp only [↓stU, stD, reduceEqDiff, ↓reduceIte]
  refine wpo_call ?_
  simp only [↓stU, stD, reduceEqDiff, ↓reduceIte]
  refine wpf_mono (times_spec (size := n.length) H.f120 (hb.same hS2) hn.1 (by omega) (by omega) (by omega) (by rw [hm]; exact hbign)) ?_
  rintro _ S3 ⟨lv, rfl, hnx3, hv, hvl, hvs, hvv, hS3⟩
  try simp only [↓stU, stD, reduceEqDiff, ↓reduceIte]
  rw [hm] at hvl
  have wd : IntKind.i64.wrap (((l.length : Nat) : Int) - ((n.length : Nat) : Int)) = ((l.length - n.length : Nat) : Int) := by rw [wrap_i64 (by omega) (by omega)]; omega
  have wd1 : IntKind.i64.wrap (((l.length - n.length : Nat) : Int) + 1) = ((l.length + 1 - (m + 2) : Nat) : Int) := by rw [wrap_i64 (by omega) (by omega)]; omega
  have hmk := fun F id (x : Opd) (hx : natOf (x.val F) = some (l.length + 1 - (m + 2))) => evA_mk (t := 102) (s := 1) (bytes := 4) (z := [AV.int .u32 0]) (l := x) (c := x) (F := F) (id := id) (n := l.length + 1 - (m + 2)) hx hx (by unfold room; omega) (by unfold room; omega)
  refine wsr ?_
  simp only [↓stU, stD, reduceEqDiff, ↓reduceIte, ha.len, wd, wd1, ↓wpo_aE]
  rw [hmk _ _ _ (by simp only [↓stU, stD, reduceEqDiff, ↓reduceIte])]
  simp only [↓stU, stD, reduceEqDiff, ↓reduceIte]
  refine wss ?_
  simp only [↓stU, stD, reduceEqDiff, ↓reduceIte, ha.len, wd]
  have hV : val lv = val n * f := hvv
  have hB1 : B ^ (m + 1) ≤ val n := by
    have : B ^ (m + 1) * 1 ≤ B ^ (m + 1) * t := Nat.mul_le_mul_left _ htp
    omega
  have hVp : 0 < val lv := by rw [hV]; exact Nat.mul_pos hy0 hf0
  have htopv : B ≤ 2 * lv[m + 1]?.getD 0 := by
    have e := val_take_get lv (m + 1)
    rw [List.take_of_length_le (by omega)] at e
    have h2 : val (lv.take (m + 1)) < B ^ (m + 1) := by have := val_lt (hvs.take (m + 1)); rwa [List.length_take, Nat.min_eq_left (by omega)] at this
    generalize lv[m + 1]?.getD 0 = s at *
    have h3 : f * t * B ^ (m + 1) < (s + 1) * B ^ (m + 1) := by
      have a1 : B ^ (m + 1) * t * f ≤ val n * f := Nat.mul_le_mul_right _ (by omega)
      have e1 : B ^ (m + 1) * t * f = f * t * B ^ (m + 1) := by grind
      have e2 : (s + 1) * B ^ (m + 1) = B ^ (m + 1) * s + B ^ (m + 1) := by grind
      omega
    have h4 : f * t < s + 1 := Nat.lt_of_mul_lt_mul_right h3
    omega
  obtain ⟨K, hK⟩ : ∃ K, l.length + 1 - (m + 2) = K := ⟨_, rfl⟩
  have hKl : K + (m + 2) = l.length + 1 := by omega
  have hrK : val (u.drop K) < val lv := by
    have e : val u = val (u.take K) + B ^ K * val (u.drop K) := by
      have := val_append (u.take K) (u.drop K)
      rwa [List.take_append_drop, List.length_take, Nat.min_eq_left (by omega)] at this
    have h2 : val l * f < B ^ l.length * f := Nat.mul_lt_mul_of_pos_right (val_lt hl.1) hf0
    have e2 : B ^ l.length = B ^ K * B ^ (m + 1) := by rw [← Nat.pow_add]; congr 1; omega
    have h3 : B ^ K * val (u.drop K) < B ^ K * (B ^ (m + 1) * f) := by
      have : B ^ l.length * f = B ^ K * (B ^ (m + 1) * f) := by rw [e2, Nat.mul_assoc]
      omega
    have h4 := Nat.lt_of_mul_lt_mul_left h3
    have h5 : B ^ (m + 1) * f ≤ val n * f := Nat.mul_le_mul_right _ hB1
    omega
  have e12 : ((l.length - n.length : Nat) : Int) = (K : Int) - 1 := by omega
  have hS13 := hS1.trans (hS2.trans hS3)
  rw [hm] at e12
  rw [hm, hK]
  refine wpc_mono (Q := fun o A' S' => o = .normal ∧ DivI S S1.nx S2.nx S3.nx u lv (l.length + 1) m f (val lv) 0 A' S') ?_ ?_
  · refine wpc_block (wpc_loop (DivI S S1.nx S2.nx S3.nx u lv (l.length + 1) m f (val lv)) ?_ K _ _ ⟨rfl, u.drop K, [], [], by omega, by simp; omega, by simp; omega, by simp; omega, by simp only [↓stU, stD, reduceEqDiff, ↓reduceIte, hK], by simp only [↓stU, stD, reduceEqDiff, ↓reduceIte], by simp only [↓stU, stD, reduceEqDiff, ↓reduceIte], by simp only [↓stU, stD, reduceEqDiff, ↓reduceIte], by simp only [↓stU, stD, reduceEqDiff, ↓reduceIte], by simp only [↓stU, stD, reduceEqDiff, ↓reduceIte, e12], ?_, ?_, ?_, ?_, ?_, ?_, ?_, fun z hz => hus z (List.mem_of_mem_drop hz), Small.nil, hrK, by simp [val_nil]⟩)
    · rintro k ⟨F, inr⟩ S' ⟨q0, r, z, qs, hk1, hr, hz, hq, p4, p8, p9, p10, p11, p12, hS, hn1, hn2, hn3, gu, gv, gq, hrs, hqs, hrV, hinv⟩
      simp only at q0 p4 p8 p9 p10 p11 p12
      subst q0
      refine wss ?_
      cases k with
      | zero =>
        have d2 : decide ((0 : Int) ≤ ((0 : Nat) : Int) - 1) = false := rfl
        simp only [↓stU, stD, reduceEqDiff, ↓reduceIte, p12]
        refine wpc_non (by simp only [↓stU, stD, reduceEqDiff, ↓reduceIte]; rfl) (wpc_exit ?_)
        simp only [↓stU, stD, reduceEqDiff, ↓reduceIte]
        exact ⟨rfl, r, z, qs, hk1, hr, hz, hq, by simp only [↓stU, stD, reduceEqDiff, ↓reduceIte, p4], by simp only [↓stU, stD, reduceEqDiff, ↓reduceIte, p8], by simp only [↓stU, stD, reduceEqDiff, ↓reduceIte, p9], by simp only [↓stU, stD, reduceEqDiff, ↓reduceIte, p10], by simp only [↓stU, stD, reduceEqDiff, ↓reduceIte, p11], by simp only [↓stU, stD, reduceEqDiff, ↓reduceIte, p12], hS, hn1, hn2, hn3, gu, gv, gq, hrs, hqs, hrV, hinv⟩
      | succ j =>
        have e12 : (((j + 1 : Nat) : Int) - 1) = (j : Int) := by omega
        rw [e12] at p12
        have d2 : decide ((0 : Int) ≤ (j : Int)) = true := decide_eq_true (by omega)
        simp only [↓stU, stD, reduceEqDiff, ↓reduceIte, p12, d2]
        refine wpc_yes (by simp only [↓stU, stD, reduceEqDiff, ↓reduceIte]) (wpc_skip ?_)
        simp only [↓stU, stD, reduceEqDiff, ↓reduceIte]
        have hj : j < u.length := by omega
        have hxB := getD_lt hus j
        have htk : u.take (j + 1) = u.take j ++ [u[j]?.getD 0] := by rw [List.take_add_one, List.getElem?_eq_getElem hj]; rfl
        have hdk : u.drop j = u[j]?.getD 0 :: u.drop (j + 1) := by rw [List.drop_eq_getElem_cons hj, List.getElem?_eq_getElem hj]; rfl
        generalize u[j]?.getD 0 = x at *
        rw [htk, List.append_assoc (u.take j), show [x] ++ r = x :: r from rfl] at gu
        have wj1 : IntKind.i64.wrap ((j : Int) + ((m + 2 : Nat) : Int)) = ((j + (m + 2) : Nat) : Int) := by rw [wrap_i64 (by omega) (by omega)]; omega
        have wj2 : IntKind.i64.wrap (((j + (m + 2) : Nat) : Int) + 1) = ((j + (m + 3) : Nat) : Int) := by rw [wrap_i64 (by omega) (by omega)]; omega
        have hslc := fun (F : Fr) (a b : Opd) ha hb => slc_mid (b := S1.nx) (off := 0) (n := l.length + 1) (cap := l.length + 1) (i := j) (k := j + (m + 3)) (F := F) (x := a) (y := b) ha hb (by omega) (by omega) (by omega)
        have e3 : j + (m + 3) - j = m + 3 := by omega
        rw [e3] at hslc
        refine wpc_seq (wpc_block (wpc_reg ?_))
        simp only [↓stU, stD, reduceEqDiff, ↓reduceIte, p4, p8, p10, p11, p12, wj1, wj2]
        rw [hslc _ _ _ (by simp only [↓stU, stD, reduceEqDiff, ↓reduceIte]) (by simp only [↓stU, stD, reduceEqDiff, ↓reduceIte])]
        simp only [↓stU, stD, reduceEqDiff, ↓reduceIte, p4, p11, p12]
        refine wpo_call ?_
        simp only [↓stU, stD, reduceEqDiff, ↓reduceIte]
        have hwin : val (x :: r) < val lv * B := by
          rw [val_cons]
          have : B * (val r + 1) ≤ B * val lv := Nat.mul_le_mul_left _ hrV
          rw [Nat.mul_add] at this
          have e := Nat.mul_comm B (val lv)
          omega
        refine wpf_mono (digit_spec (S := S') (b := S1.nx) (off := 0 + j * 1) (m := m) (cap := l.length + 1 - j) (bv := S2.nx) (p := u.take j) (u := x :: r) (w := z) (lv := lv) H.f121 gu gv (by omega) hn2 hvl (by simp [hr]) (by simp; omega) (by omega) (Small.cons.2 ⟨hxB, hrs⟩) hvs htopv hwin) ?_
        rintro _ S4 ⟨rfl, hqd, d, hd, gu4, hds, hdv, hS4⟩
        have gq4 : S4.h.get S3.nx = some (.cells (cells32 (List.replicate (j + 1) 0 ++ qs)) false 0) := by rw [hS4.2 _ hn3 (by omega)]; exact gq
        have gv4 : S4.h.get S2.nx = some (.cells (cells32 lv) false 0) := by rw [hS4.2 _ hn2 (by omega)]; exact gv
        have hdm : val (x :: r) / val lv * val lv + val (x :: r) % val lv = val (x :: r) := by rw [Nat.mul_comm]; exact Nat.div_add_mod ..
        have hml : val (x :: r) % val lv < val lv := Nat.mod_lt _ hVp
        rw [← hdv] at hdm hml
        generalize val (x :: r) / val lv = dg at *
        have hia : iaddrV (.slice 1) (.sl S3.nx 0 (l.length + 1 - (m + 2)) (l.length + 1 - (m + 2)) false) j = some (.ptr S3.nx j) := by rw [iaddr_own (by omega)]; simp
        have hst := st_at (w := dg) gq4 (p := j) (by simp; omega)
        rw [set_low] at hst
        simp only [↓stU, stD, reduceEqDiff, ↓reduceIte, hia]
        refine wpo_x (fun call => by simp only [↓stU, stD, reduceEqDiff, ↓reduceIte, evX_st, cells_int]; exact hst) ?_
        simp only [↓stU, stD, reduceEqDiff, ↓reduceIte]
        refine wpc_reg ?_
        have wj3 : IntKind.i64.wrap ((j : Int) - 1) = (j : Int) - 1 := wrap_i64 (by omega) (by omega)
        simp only [↓stU, stD, reduceEqDiff, ↓reduceIte, p12, wj3]
        have hn4 := hS4.1
        have hSS : Same S S4 := hS4.same hS (by have := hS1.1; omega)
        refine ⟨j, by omega, rfl, d, [0] ++ z, dg :: qs, by omega, hd, by simp; omega, by simp; omega, by simp only [↓stU, stD, reduceEqDiff, ↓reduceIte, p4], by simp only [↓stU, stD, reduceEqDiff, ↓reduceIte, p8], by simp only [↓stU, stD, reduceEqDiff, ↓reduceIte, p9], by simp only [↓stU, stD, reduceEqDiff, ↓reduceIte, p10], by simp only [↓stU, stD, reduceEqDiff, ↓reduceIte, p11], by simp only [↓stU, stD, reduceEqDiff, ↓reduceIte], ?_, by simp only; omega, by simp only; omega, by simp only; omega, ?_, ?_, ?_, hds, Small.cons.2 ⟨hqd, hqs⟩, hml, ?_⟩
        · exact hSS.put (by have := hS13.1; omega) _
        · simp only
          rw [T.get_set, if_neg (by omega), gu4]
          simp [List.append_assoc]
        · simp only
          rw [T.get_set, if_neg (by omega)]; exact gv4
        · simp only
          rw [T.get_set, if_pos rfl]
        · rw [hdk, val_cons, val_cons]
          refine short_step hinv (t := val (x :: r)) ?_ hdm
          rw [val_cons, Nat.mul_comm]; omega
    · exact hS13.put (by exact hS13.1) _ |>.trans (Same.refl _) |> fun h => ⟨by have := hS13.1; simp only; omega, h.2⟩
    · have := hS2.1; have := hS3.1; simp only; omega
    · have := hS3.1; simp only; omega
    · simp only; omega
    · simp only
      have := hS2.1; have := hS3.1
      rw [T.get_set, if_neg (by omega), hS3.2 _ (by omega), hu]
      simp
    · simp only
      rw [T.get_set, if_neg (by omega), hv]
    · simp only
      rw [T.get_set, if_pos rfl, cells32_zeros]
      simp
  · rintro o ⟨F, inr⟩ S' ⟨rfl, q0, r, z, qs, hk1, hr, hz, hq, p4, p8, p9, p10, p11, p12, hS, hn1, hn2, hn3, gu, gv, gq, hrs, hqs, hrV, hinv⟩
    simp only at q0 p4 p8 p9 p10 p11 p12
    subst q0
    simp only [List.take_zero, List.nil_append] at gu
    simp only [List.replicate_zero, List.nil_append] at gq
    rw [List.drop_zero, huv, hV] at hinv
    rw [hV] at hrV
    obtain ⟨hqe, hre⟩ := div_end hf0 hinv hrV
    have hlu := limbs_own (n := l.length + 1) (o' := false) (cap := l.length + 1) gu hn1 (by simp; omega) (Nat.le_refl _)
    have hlt2 : m + 2 < (r ++ z).length := by simp; omega
    have hhd := hlu.head hlt2
    rw [show (r ++ z).take (m + 2) = r by rw [← hr, List.take_left' rfl]] at hhd
    simp only [↓stU, stD, reduceEqDiff, ↓reduceIte]
    refine wsr ?_
    simp only [↓stU, stD, reduceEqDiff, ↓reduceIte, p8, p10]
    rw [hlu.slc hlt2 (by simp only [↓stU, stD, reduceEqDiff, ↓reduceIte])]
    simp only [↓stU, stD, reduceEqDiff, ↓reduceIte]
    refine wpo_call ?_
    simp only [↓stU, stD, reduceEqDiff, ↓reduceIte]
    refine wpf_mono (trim_spec H.f122 hhd hrs (by omega)) ?_
    rintro rv S5 ⟨⟨r', hr1, hr2, hr3⟩, rfl⟩
    have wf : IntKind.u32.wrap (f : Int) = (f : Int) := wrap_u32 (by omega) (by omega)
    have hr'l : r'.length ≤ 100000 := by
      have h6 : val r < B ^ (m + 2) := by have := val_lt hrs; rwa [hr] at this
      have := len_le (K := m + 2) hr2 (by rw [hr3]; exact h6)
      omega
    simp only [↓stU, stD, reduceEqDiff, ↓reduceIte, p9, wf]
    refine wpo_call ?_
    simp only [↓stU, stD, reduceEqDiff, ↓reduceIte]
    refine wpf_mono (short_spec H.f122 H.f119 hr1 hr2.1 hr'l hf0 (by omega)) ?_
    rintro _ S6 ⟨rq, rfl, hrq, hS6⟩
    simp only [↓stU, stD, reduceEqDiff, ↓reduceIte, ex0, ex1]
    rw [hr3, hre] at hrq
    have hq6 : S6.h.get S3.nx = some (.cells (cells32 qs) false 0) := by rw [hS6.2 _ hn3]; exact gq
    have hlq := limbs_own (n := l.length + 1 - (m + 2)) (o' := false) (cap := l.length + 1 - (m + 2)) hq6 (Nat.lt_of_lt_of_le hn3 hS6.1) (by omega) (Nat.le_refl _)
    refine wsr ?_
    simp only [↓stU, stD, reduceEqDiff, ↓reduceIte, p4]
    refine wpo_call ?_
    simp only [↓stU, stD, reduceEqDiff, ↓reduceIte]
    refine wpf_mono (trim_spec H.f122 hlq hqs (by omega)) ?_
    rintro qv S7 ⟨hqv, rfl⟩
    rw [hqe] at hqv
    try simp only [↓stU, stD, reduceEqDiff, ↓reduceIte]
    refine wpc_ret ?_
    simp only [↓stU, stD, reduceEqDiff, ↓reduceIte]
    exact ⟨qv, rq, rfl, hqv, hrq, hS.trans hS6⟩
end Go.Ev.Gl

namespace Go.Ev.Gl
variable {fns : T AFn}

/-! ## The tables that the program lays -/
def tabB : List AV := bruijn.map fun n => AV.int .u8 ((n : Nat) : Int)
def Laid (S : St) : Prop := S.h.get 0 = some (.ro tabB) ∧ True ∧ 0 < S.nx
theorem Laid.same {S S' : St} (h : Laid S) (hs : Same S S') : Laid S' := by
  obtain ⟨h1, h2, h3⟩ := h
  have := hs.1
  exact ⟨by rw [hs.2 _ (by omega)]; exact h1, h2, by omega⟩

/-! ## Bits -/
theorem bin_and64 (e : EqT) {a b : Nat} (ha : a ≤ 18446744073709551615) (hb : b ≤ 18446744073709551615) : binV .and e (.int .u64 (a : Int)) (.int .u64 (b : Int)) = some (.int .u64 ((Nat.land a b : Nat) : Int)) := by
  show intsBin .and .u64 (Int.ofNat a) .u64 (Int.ofNat b) = _
  unfold intsBin
  rw [show isShift .and = false from rfl, bsel_false, keq_refl, bsel_true]
  show bsel (Nat.ble a 18446744073709551615) (bsel (Nat.ble b 18446744073709551615) _ _) _ = _
  rw [Nat.ble_eq_true_of_le ha, Nat.ble_eq_true_of_le hb]
  rfl
theorem bin_or64 (e : EqT) {a b : Nat} (ha : a ≤ 18446744073709551615) (hb : b ≤ 18446744073709551615) : binV .or e (.int .u64 (a : Int)) (.int .u64 (b : Int)) = some (.int .u64 ((Nat.lor a b : Nat) : Int)) := by
  show intsBin .or .u64 (Int.ofNat a) .u64 (Int.ofNat b) = _
  unfold intsBin
  rw [show isShift .or = false from rfl, bsel_false, keq_refl, bsel_true]
  show bsel (Nat.ble a 18446744073709551615) (bsel (Nat.ble b 18446744073709551615) _ _) _ = _
  rw [Nat.ble_eq_true_of_le ha, Nat.ble_eq_true_of_le hb]
  rfl
theorem bin_shr64 (e : EqT) (j : IntKind) {a n : Nat} (hn : n ≤ 64) : binV .shr e (.int .u64 (a : Int)) (.int j (n : Int)) = some (.int .u64 ((a / 2 ^ n : Nat) : Int)) := by
  show intsBin .shr .u64 (Int.ofNat a) j (Int.ofNat n) = _
  unfold intsBin
  rw [show isShift .shr = true from rfl, bsel_true]
  show shiftN .shr .u64 (Int.ofNat a) n = _
  unfold shiftN
  rw [show Nat.ble n IntKind.u64.bits = true from Nat.ble_eq_true_of_le hn, bsel_true]
  show some (AV.int .u64 (Int.fdiv (a : Int) ((2 ^ n : Nat) : Int))) = _
  rw [Int.fdiv_eq_ediv_of_nonneg _ (Int.natCast_nonneg _)]
  rfl
theorem bin_shl64 (e : EqT) (j : IntKind) {a n : Nat} (hn : n ≤ 64) : binV .shl e (.int .u64 (a : Int)) (.int j (n : Int)) = some (.int .u64 (IntKind.u64.wrap ((a * 2 ^ n : Nat) : Int))) := by
  show intsBin .shl .u64 (Int.ofNat a) j (Int.ofNat n) = _
  unfold intsBin
  rw [show isShift .shl = true from rfl, bsel_true]
  show shiftN .shl .u64 (Int.ofNat a) n = _
  unfold shiftN
  rw [show Nat.ble n IntKind.u64.bits = true from Nat.ble_eq_true_of_le hn, bsel_true]
  show some (AV.int .u64 (iMulV .u64 (Int.ofNat a) (Int.ofNat (2 ^ n)))) = _
  rw [iMulV_eq]
  rfl
theorem wrap_u64_mod (n : Nat) : IntKind.u64.wrap (n : Int) = ((n % 2 ^ 64 : Nat) : Int) := by
  simp [IntKind.wrap, IntKind.signed, IntKind.bits]
theorem w1g (k C : Nat) : IntKind.u64.wrap (((2 ^ k : Nat) : Int) * (C : Int)) = ((2 ^ k * C % 2 ^ 64 : Nat) : Int) := by
    rw [← wrap_u64_mod, Int.natCast_mul]
theorem w1d : ∀ k, k < 64 → ∃ mm ix : Nat, IntKind.u64.wrap (((2 ^ k : Nat) : Int) * 285870213051353865) = (mm : Int) ∧ mm / 2 ^ 58 = ix ∧ bruijn[ix]? = some k ∧ ix < 64 := by
  intro k hk
  have h := w1g k 285870213051353865
  have hb := bruijn_all k hk
  have : ∀ mm, mm = 2 ^ k * 285870213051353865 % 2 ^ 64 → (bruijn[mm / 2 ^ 58]? = some k) → ∃ mm ix : Nat, IntKind.u64.wrap (((2 ^ k : Nat) : Int) * 285870213051353865) = (mm : Int) ∧ mm / 2 ^ 58 = ix ∧ bruijn[ix]? = some k ∧ ix < 64 := by
    intro mm hmm hbb
    rw [← hmm] at h
    exact ⟨mm, mm / 2 ^ 58, h, rfl, hbb, (List.getElem?_eq_some_iff.1 hbb).1⟩
  exact this _ rfl hb
theorem un_neg64 {a : Nat} (ha : 0 < a) (ha2 : a ≤ 18446744073709551615) : unV .neg (.int .u64 (a : Int)) = some (.int .u64 ((2 ^ 64 - a : Nat) : Int)) := by
  show some (AV.int .u64 (iSubV .u64 (.ofNat 0) a)) = _
  rw [iSubV_eq]
  congr 2
  show IntKind.u64.wrap ((0 : Int) - (a : Int)) = _
  simp only [IntKind.wrap, IntKind.signed, IntKind.bits, Bool.false_and, Bool.false_eq_true, if_false]
  omega

theorem tz_spec {S : St} {x k : Nat} (H : Has fns) (hL : Laid S) (hx : x ≤ 18446744073709551615) (hk : Tz x k) :
    wpf fns (.fn 79 [] []) [.int .u64 (x : Int)] S fun r S' => r = .int .i64 (k : Int) ∧ S' = S := by
  have hp := hk.pos
  have hk64 : k < 64 := hk.lt (n := 64) (by omega)
  refine wpf_fn H.f79 (by simp) ?_
  simp only [↓stU, stD, reduceEqDiff, ↓reduceIte]
  refine wsr ?_
  simp only [↓stU, stD, reduceEqDiff, ↓reduceIte]
  refine wss ?_
  have d1 : decide ((x : Int) = 0) = false := decide_eq_false (by omega)
  simp only [↓stU, stD, reduceEqDiff, ↓reduceIte, d1]
  refine wpc_non (by simp only [↓stU, stD, reduceEqDiff, ↓reduceIte]) (wpc_skip ?_)
  simp only [↓stU, stD, reduceEqDiff, ↓reduceIte]
  have hand := bin_and64 (.p .int) (a := x) (b := 2 ^ 64 - x) hx (by omega)
  rw [tz_and hk (by omega)] at hand
  have hun := un_neg64 hp hx
  obtain ⟨mm, ix, w1, hmi, hb, hix⟩ := w1d k hk64
  have hshr := bin_shr64 (.p .int) .u64 (a := mm) (n := 58) (by decide)
  rw [show ((58 : Nat) : Int) = 58 from rfl, hmi] at hshr
  have hia : iaddrV (.arr 64 1) (.ptr 0 0) ix = some (.ptr 0 ix) := by
    show bsel (Nat.blt ix 64) (some (AV.ptr 0 (0 + ix * 1))) none = _
    rw [show Nat.blt ix 64 = true from Nat.ble_eq_true_of_le hix, bsel_true]
    simp
  have hld : qLdV (.ptr 0 ix) false 1 S.h = some (.int .u8 (k : Int)) := by
    simp only [qLdV, loadV, bsel_false, load1, cellsAt, hL.1, osel_some, cellsOfB, nth_eq, tabB, List.getElem?_map, hb, Option.map_some]
  have w2 : IntKind.i64.wrap (k : Int) = (k : Int) := wrap_i64 (by omega) (by omega)
  refine wsr ?_
  simp only [↓stU, stD, reduceEqDiff, ↓reduceIte, hun, hand, w1, hshr, hia, hld, w2]
  refine wpc_ret ?_
  simp only [↓stU, stD, reduceEqDiff, ↓reduceIte]

def BinI (S : St) (s g : Nat) (k : Nat) (A : Act') (S' : St) : Prop :=
  A.inr = false ∧ S' = S ∧ ∃ a b, tmpV 0 A.F = .int .u64 ((a : Nat) : Int) ∧ tmpV 1 A.F = .int .u64 ((b : Nat) : Int) ∧ tmpV 5 A.F = .int .i64 (s : Int) ∧ a % 2 = 1 ∧ a ≤ 18446744073709551615 ∧ b ≤ 18446744073709551615 ∧ Nat.gcd a b = g ∧ k = a + b

theorem binary_spec {S : St} {x y : Nat} (H : Has fns) (hL : Laid S) (hx : x ≤ 18446744073709551615) (hy : y ≤ 18446744073709551615) :
    wpf fns (.fn 60 [] []) [.int .u64 (x : Int), .int .u64 (y : Int)] S fun r S' => r = .int .u64 ((Nat.gcd x y : Nat) : Int) ∧ S' = S := by
  refine wpf_fn H.f60 (by simp) ?_
  simp only [↓stU, stD, reduceEqDiff, ↓reduceIte]
  refine wsr ?_
  simp only [↓stU, stD, reduceEqDiff, ↓reduceIte]
  refine wss ?_
  simp only [↓stU, stD, reduceEqDiff, ↓reduceIte]
  rcases Nat.eq_zero_or_pos x with h0 | hxp
  · subst h0
    refine wpc_yes (by simp only [↓stU, stD, reduceEqDiff, ↓reduceIte]; rfl) ?_
    refine wsr ?_
    simp only [↓stU, stD, reduceEqDiff, ↓reduceIte]
    refine wpc_ret ?_
    simp only [↓stU, stD, reduceEqDiff, ↓reduceIte, Nat.gcd_zero_left]
  have d1 : decide ((x : Int) = 0) = false := decide_eq_false (by omega)
  refine wpc_non (by simp only [↓stU, stD, reduceEqDiff, ↓reduceIte, d1]) (wpc_skip ?_)
  simp only [↓stU, stD, reduceEqDiff, ↓reduceIte]
  refine wss ?_
  simp only [↓stU, stD, reduceEqDiff, ↓reduceIte]
  rcases Nat.eq_zero_or_pos y with h0 | hyp
  · subst h0
    refine wpc_yes (by simp only [↓stU, stD, reduceEqDiff, ↓reduceIte]; rfl) ?_
    refine wsr ?_
    simp only [↓stU, stD, reduceEqDiff, ↓reduceIte]
    refine wpc_ret ?_
    simp only [↓stU, stD, reduceEqDiff, ↓reduceIte, Nat.gcd_zero_right]
  have d2 : decide ((y : Int) = 0) = false := decide_eq_false (by omega)
  refine wpc_non (by simp only [↓stU, stD, reduceEqDiff, ↓reduceIte, d2]) (wpc_skip ?_)
  simp only [↓stU, stD, reduceEqDiff, ↓reduceIte]
  obtain ⟨i, hi⟩ := tz_ex hxp
  obtain ⟨j, hj⟩ := tz_ex hyp
  have hor := tz_or hi hj
  have horl : Nat.lor x y < 2 ^ 64 := Nat.or_lt_two_pow (by omega) (by omega)
  have hi64 : i < 64 := hi.lt (n := 64) (by omega)
  have hj64 : j < 64 := hj.lt (n := 64) (by omega)
  refine wsr ?_
  simp only [↓stU, stD, reduceEqDiff, ↓reduceIte, bin_or64 (.p .int) hx hy]
  refine wpo_call ?_
  simp only [↓stU, stD, reduceEqDiff, ↓reduceIte]
  refine wpf_mono (tz_spec H hL (by omega) hor) ?_
  rintro _ T ⟨rfl, hT⟩
  rw [hT]
  try simp only [↓stU, stD, reduceEqDiff, ↓reduceIte]
  refine wsr ?_
  simp only [↓stU, stD, reduceEqDiff, ↓reduceIte]
  refine wpo_call ?_
  simp only [↓stU, stD, reduceEqDiff, ↓reduceIte]
  refine wpf_mono (tz_spec H hL hx hi) ?_
  rintro _ T ⟨rfl, hT⟩
  rw [hT]
  simp only [↓stU, stD, reduceEqDiff, ↓reduceIte, bin_shr64 (.p .int) .i64 (a := x) (n := i) (by omega)]
  obtain ⟨o1, o2, o3⟩ := hi.odd
  have hsp := gcd_split hi hj
  have hax : x / 2 ^ i ≤ x := Nat.div_le_self ..
  generalize x / 2 ^ i = a at *
  refine wpc_seq (wpc_mono (Q := fun o A' S' => o = .normal ∧ A'.inr = false ∧ S' = S ∧ tmpV 0 A'.F = .int .u64 ((Nat.gcd a y : Nat) : Int) ∧ tmpV 5 A'.F = .int .i64 ((min i j : Nat) : Int)) ?_ ?_)
  · refine wpc_block (wpc_loop (BinI S (min i j) (Nat.gcd a y)) ?_ (a + y) _ _ ⟨rfl, rfl, a, y, by simp only [↓stU, stD, reduceEqDiff, ↓reduceIte], by simp only [↓stU, stD, reduceEqDiff, ↓reduceIte], by simp only [↓stU, stD, reduceEqDiff, ↓reduceIte], o1, by omega, hy, rfl, rfl⟩)
    rintro k ⟨F, inr⟩ S' ⟨q0, hS', a', b', p0, p1, p5, ho, ha', hb', hg, rfl⟩
    simp only at q0 p0 p1 p5
    subst q0
    rw [hS']
    refine wss ?_
    simp only [↓stU, stD, reduceEqDiff, ↓reduceIte, p1]
    rcases Nat.eq_zero_or_pos b' with h0 | hbp
    · subst h0
      refine wpc_non (by simp only [↓stU, stD, reduceEqDiff, ↓reduceIte]; rfl) (wpc_exit ?_)
      rw [Nat.gcd_zero_right] at hg
      subst hg
      simp only [↓stU, stD, reduceEqDiff, ↓reduceIte, p0, p5]
    have d3 : decide (¬ (b' : Int) = 0) = true := decide_eq_true (by omega)
    refine wpc_yes (by simp only [↓stU, stD, reduceEqDiff, ↓reduceIte, ne_eq, d3]) (wpc_skip ?_)
    simp only [↓stU, stD, reduceEqDiff, ↓reduceIte]
    obtain ⟨t, ht⟩ := tz_ex hbp
    have ht64 : t < 64 := ht.lt (n := 64) (by omega)
    refine wpc_block (wpc_seq (wpc_reg ?_))
    simp only [↓stU, stD, reduceEqDiff, ↓reduceIte, p1]
    refine wpo_call ?_
    simp only [↓stU, stD, reduceEqDiff, ↓reduceIte]
    refine wpf_mono (tz_spec H hL hb' ht) ?_
    rintro _ T ⟨rfl, hT⟩
    rw [hT]
    simp only [↓stU, stD, reduceEqDiff, ↓reduceIte, bin_shr64 (.p .int) .i64 (a := b') (n := t) (by omega)]
    obtain ⟨r1, r2, r3⟩ := ht.odd
    have hgb : Nat.gcd a' (b' / 2 ^ t) = Nat.gcd a y := by
      have : Nat.gcd a' b' = Nat.gcd a' (2 ^ t * (b' / 2 ^ t)) := by rw [← r2]
      rw [← hg, this, gcd_odd ho]
    have hbx : b' / 2 ^ t ≤ b' := Nat.div_le_self ..
    generalize b' / 2 ^ t = c at *
    refine wss ?_
    simp only [↓stU, stD, reduceEqDiff, ↓reduceIte, p0]
    by_cases hgt : c < a'
    · refine wpc_yes (by simp only [↓stU, stD, reduceEqDiff, ↓reduceIte, decide_eq_true (show (c : Int) < (a' : Int) by omega)]) ?_
      refine wpc_reg ?_
      have w1 : IntKind.u64.wrap ((a' : Int) - (c : Int)) = ((a' - c : Nat) : Int) := by rw [wrap_u64 (by omega) (by omega)]; omega
      simp only [↓stU, stD, reduceEqDiff, ↓reduceIte, p0]
      refine wpc_reg ?_
      simp only [↓stU, stD, reduceEqDiff, ↓reduceIte, w1]
      refine ⟨c + (a' - c), by omega, rfl, rfl, c, a' - c, by simp only [↓stU, stD, reduceEqDiff, ↓reduceIte], by simp only [↓stU, stD, reduceEqDiff, ↓reduceIte], by simp only [↓stU, stD, reduceEqDiff, ↓reduceIte, p5], r1, by omega, by omega, ?_, rfl⟩
      rw [gcd_sub (by omega), Nat.gcd_comm]; exact hgb
    · refine wpc_non (by simp only [↓stU, stD, reduceEqDiff, ↓reduceIte, decide_eq_false (show ¬ (c : Int) < (a' : Int) by omega)]) (wpc_skip ?_)
      have w1 : IntKind.u64.wrap ((c : Int) - (a' : Int)) = ((c - a' : Nat) : Int) := by rw [wrap_u64 (by omega) (by omega)]; omega
      simp only [↓stU, stD, reduceEqDiff, ↓reduceIte]
      refine wpc_reg ?_
      simp only [↓stU, stD, reduceEqDiff, ↓reduceIte, p0, w1]
      refine ⟨a' + (c - a'), by omega, rfl, rfl, a', c - a', by simp only [↓stU, stD, reduceEqDiff, ↓reduceIte, p0], by simp only [↓stU, stD, reduceEqDiff, ↓reduceIte], by simp only [↓stU, stD, reduceEqDiff, ↓reduceIte, p5], ho, by omega, by omega, ?_, rfl⟩
      rw [gcd_sub (by omega)]; exact hgb
  · rintro o ⟨F, inr⟩ S' ⟨rfl, q0, hS', p0, p5⟩
    simp only at q0 p0 p5
    subst q0
    rw [hS']
    simp only [↓stU, stD, reduceEqDiff, ↓reduceIte]
    refine wsr ?_
    have hle : Nat.gcd a y * 2 ^ (min i j) = Nat.gcd x y := by rw [hsp, Nat.mul_comm]
    have hgle : Nat.gcd x y ≤ x := Nat.gcd_le_left _ hxp
    have w1 : IntKind.u64.wrap ((Nat.gcd a y * 2 ^ (min i j) : Nat) : Int) = ((Nat.gcd x y : Nat) : Int) := by rw [hle]; exact wrap_u64 (by omega) (by omega)
    simp only [↓stU, stD, reduceEqDiff, ↓reduceIte, p0, p5, bin_shl64 (.p .int) .i64 (a := Nat.gcd a y) (n := min i j) (by omega), w1]
    refine wpc_ret ?_
    simp only [↓stU, stD, reduceEqDiff, ↓reduceIte]
end Go.Ev.Gl
