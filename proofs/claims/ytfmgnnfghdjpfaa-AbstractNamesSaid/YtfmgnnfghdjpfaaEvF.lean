import Derived.Test.YtfmgnnfghdjpfaaEvE
import Derived.Laws.Entries
namespace Go.Ev
variable {P : Program} {σ : Env} {S : St} {w : World}

/-! ## Operands -/
theorem opd_sound {F : Fr} {a : Act} (hF : FrR P σ F a.tmps) (hR : Rep P σ S w) {x : Operand} {X : Opd} (h : cOpd P x = some X) : Rv P σ (X.val F) (a.eval x) := by
  cases x with
  | tmp t => simp only [cOpd, Option.some.injEq] at h; subst h; exact hF.get t
  | const v =>
    simp only [cOpd, Option.map_eq_some_iff] at h
    obtain ⟨y, hy, rfl⟩ := h
    exact Rv_ofValue hy
  | global g =>
    simp only [cOpd, Bool.cond_eq_ite] at h
    split at h
    · rename_i hg
      cases h
      show Rv P σ (.ptr g 0) _
      simp only [Rv]
      have hlt : g < P.globals.size := Nat.le_of_ble_eq_true hg
      exact ⟨_, hR.glob g hlt, rfl⟩
    · cases h
  | func f =>
    simp only [cOpd, Option.some.injEq] at h; subst h
    show Rv P σ (.fn f [] []) _
    simp only [Rv]
    exact ⟨[], [], rfl, Rvs_nil.2 rfl, Rvs_nil.2 rfl⟩

theorem valsOf_nil (F : Fr) : valsOf [] F = [] := rfl
theorem valsOf_cons (x : Opd) (xs : List Opd) (F : Fr) : valsOf (x :: xs) F = x.val F :: valsOf xs F := rfl
theorem opds_sound {F : Fr} {a : Act} (hF : FrR P σ F a.tmps) (hR : Rep P σ S w) : ∀ {xs : List Operand} {Xs : List Opd}, cOpds P xs = some Xs → Rvs P σ (valsOf Xs F) (xs.map a.eval)
  | [], Xs, h => by simp only [cOpds, Option.some.injEq] at h; subst h; exact Rvs_nil.2 rfl
  | x :: xs, Xs, h => by
    simp only [cOpds] at h
    split at h
    · rename_i y ys hy hys
      cases h
      rw [valsOf_cons, List.map_cons]
      exact Rvs_cons.2 ⟨_, _, rfl, opd_sound hF hR hy, opds_sound hF hR hys⟩
    · cases h

/-! ## Types -/
theorem aggT_some {t : TypeId} {agg : Bool} {n : Nat} (h : aggT P t = some (agg, n)) : ∃ d i, P.underlying t = some d ∧ P.info? t = some i ∧ i.size = n ∧ d.isRow = agg := by
  unfold aggT at h
  split at h
  · rename_i i hu hi; cases h; exact ⟨_, i, hu, hi, rfl, rfl⟩
  · rename_i i hu hi; cases h; exact ⟨_, i, hu, hi, rfl, rfl⟩
  · rename_i d i hn1 hn2 hu hi
    cases h
    refine ⟨d, i, hu, hi, rfl, ?_⟩
    cases d <;> simp_all [TypeDesc.isRow]
  · cases h

/-! ## Reading the heap -/
theorem cellsAt_some {b : Nat} {cs : List AV} (hR : Rep P σ S w) (h : cellsAt S.h b = some cs) :
    ∃ L Cs, σ b = some L ∧ Rvs P σ cs Cs ∧ (∀ u ∈ Cs, u.oneCell' = true) ∧ w.rangeAt L.r L.d Cs := by
  obtain ⟨bl, h1, h2⟩ := osel_eq_some h
  obtain ⟨L, hL, _, hb⟩ := hR.blk b bl h1
  cases bl <;> simp only [cellsOfB, Option.some.injEq, reduceCtorEq] at h2
  · subst h2; obtain ⟨Cs, h3, h4, h5, _⟩ := hb; exact ⟨L, Cs, hL, h3, h4, h5⟩
  · subst h2; obtain ⟨Cs, h3, h4, h5⟩ := hb; exact ⟨L, Cs, hL, h3, h4, h5⟩

theorem range_cut {r d i n : Nat} {Cs : List Value} (h : w.rangeAt r d Cs) : w.rangeAt r (d + i) ((Cs.drop i).take n) := fun j v hv => by
  have hj : j < n := by
    rcases Nat.lt_or_ge j n with h1 | h1
    · exact h1
    · rw [List.getElem?_eq_none (by rw [List.length_take]; omega)] at hv; cases hv
  rw [List.getElem?_take_of_lt hj, List.getElem?_drop] at hv
  rw [Nat.add_assoc]
  exact h _ v hv

theorem loadN_some {b off n : Nat} {cs : List AV} (hR : Rep P σ S w) (h : loadN S.h b off n = some cs) :
    ∃ L Cs, σ b = some L ∧ Rvs P σ cs Cs ∧ Cs.length = n ∧ (∀ u ∈ Cs, u.oneCell' = true) ∧ w.rangeAt L.r (L.d + off) Cs := by
  obtain ⟨l, h1, h2⟩ := osel_eq_some h
  obtain ⟨L, Cs, hL, h3, h4, h5⟩ := cellsAt_some hR h1
  have := h3.cut h2
  exact ⟨L, _, hL, this.1, this.2, fun u hu => h4 u (List.mem_of_mem_drop (List.mem_of_mem_take hu)), range_cut h5⟩

theorem load1_some {b off : Nat} {v : AV} (hR : Rep P σ S w) (h : load1 S.h b off = some v) :
    ∃ L V, σ b = some L ∧ Rv P σ v V ∧ w.cell? ⟨L.r, L.d + off, none⟩ = some V := by
  obtain ⟨l, h1, h2⟩ := osel_eq_some h
  rw [nth_eq] at h2
  obtain ⟨L, Cs, hL, h3, _, h5⟩ := cellsAt_some hR h1
  obtain ⟨V, hV, hr⟩ := h3.get h2
  exact ⟨L, V, hL, hr, h5 _ _ hV⟩

theorem loadV_sound {t : TypeId} {agg : Bool} {n : Nat} (ht : aggT P t = some (agg, n)) (hR : Rep P σ S w) {b off : Nat} {v : AV} (hv : loadV agg n S.h b off = some v) :
    ∃ L V, σ b = some L ∧ (loadVar t ⟨L.r, L.d + off, none⟩).run P w = .ok V w ∧ Rv P σ v V := by
  obtain ⟨d, i, hu, hi, hn, hd⟩ := aggT_some ht
  unfold loadV at hv
  cases agg with
  | true =>
    rw [bsel_true] at hv
    obtain ⟨cs, h1, h2⟩ := osel_eq_some hv
    cases h2
    obtain ⟨L, Cs, hL, h3, h4, h5, h6⟩ := loadN_some hR h1
    refine ⟨L, _, hL, run_loadVar_mid w L.r (L.d + off) t Cs d h6 hu hd (by rw [hi]; simp [hn, h4]), ?_⟩
    simp only [Rv]
    exact ⟨Cs, rfl, h3, h5⟩
  | false =>
    rw [bsel_false] at hv
    obtain ⟨L, V, hL, h1, h2⟩ := load1_some hR hv
    refine ⟨L, V, hL, ?_, h1⟩
    have hna : (isAgg t).run P w = .ok false w := by
      simp only [isAgg, Sem.run_bind, run_underlying hu, Result.andThen_ok]
      cases d <;> simp_all [TypeDesc.isRow]
    simp [loadVar, hna, h2]

theorem qLd_sound {t : TypeId} {agg : Bool} {n : Nat} (ht : aggT P t = some (agg, n)) (hR : Rep P σ S w) {x : AV} {X : Value} (hx : Rv P σ x X) {v : AV} (hv : qLdV x agg n S.h = some v) :
    ∃ V, (Instr.loadAt t X).run P w = .ok V w ∧ Rv P σ v V := by
  cases x <;> simp only [qLdV, reduceCtorEq] at hv
  simp only [Rv] at hx
  obtain ⟨L, hL, rfl⟩ := hx
  obtain ⟨L', V, hL', h1, h2⟩ := loadV_sound ht hR hv
  rw [hL] at hL'; cases hL'
  exact ⟨V, by simp [Instr.loadAt, Instr.sureAddr, h1], h2⟩

/-! ## Integers -/
theorem wrap_id {k : IntKind} {n : Int} (h1 : k.min ≤ n) (h2 : n ≤ k.max) : k.wrap n = n := by
  cases k <;> simp only [IntKind.min, IntKind.max, IntKind.wrap, IntKind.signed, IntKind.bits] at * <;> simp at * <;> (try split) <;> omega
theorem nat_eq (k : IntKind) (n : Nat) : nat k n = k.wrap (Int.ofNat n) := by
  unfold nat
  rw [bsel_eq]
  split
  · rename_i h
    rw [Nat.ble_eq] at h
    rw [wrap_id]
    · cases k <;> simp [IntKind.min, IntKind.signed, IntKind.bits] <;> omega
    · cases k <;> simp only [maxN, IntKind.max, IntKind.signed, IntKind.bits] at * <;> simp <;> omega
  · rfl
theorem neg_eq (k : IntKind) (n : Nat) : neg k n = k.wrap (Int.negSucc n) := by
  unfold neg
  rw [bsel_eq]
  split
  · rename_i hs
    rw [bsel_eq]
    split
    · rename_i h
      rw [Nat.ble_eq] at h
      rw [wrap_id]
      · cases k <;> simp only [isSigned, maxN, Bool.false_eq_true] at * <;> simp only [IntKind.min, IntKind.signed, IntKind.bits] <;> simp <;> omega
      · cases k <;> simp only [isSigned, maxN, Bool.false_eq_true] at * <;> simp only [IntKind.max, IntKind.signed, IntKind.bits] <;> simp <;> omega
    · rfl
  · rfl
theorem wrapF_eq (k : IntKind) (n : Int) : wrapF k n = k.wrap n := by
  cases n with
  | ofNat m => exact nat_eq k m
  | negSucc m => exact neg_eq k m
theorem iSubNN_eq (k : IntKind) (a b : Nat) : iSubNN k a b = k.wrap ((a : Int) - b) := by
  unfold iSubNN
  rw [bsel_eq]
  split
  · rename_i h
    rw [Nat.ble_eq] at h
    rw [nat_eq]
    congr 1
    show ((a - b : Nat) : Int) = _
    omega
  · rename_i h
    rw [Nat.ble_eq] at h
    rw [neg_eq]
    congr 1
    show Int.negSucc (b - a - 1) = _
    omega
theorem iAddV_eq (k : IntKind) (x y : Int) : iAddV k x y = k.wrap (x + y) := by
  cases x with
  | ofNat a => cases y with
    | ofNat b => exact nat_eq k _
    | negSucc b => exact (iSubNN_eq k a (b + 1)).trans (by congr 1)
  | negSucc a => cases y with
    | ofNat b => exact (iSubNN_eq k b (a + 1)).trans (by congr 1)
    | negSucc b => exact (neg_eq k _).trans (by congr 1)
theorem iSubV_eq (k : IntKind) (x y : Int) : iSubV k x y = k.wrap (x - y) := by
  cases x with
  | ofNat a => cases y with
    | ofNat b => exact iSubNN_eq k a b
    | negSucc b => exact (nat_eq k _).trans (by congr 1)
  | negSucc a => cases y with
    | ofNat b => exact (neg_eq k _).trans (by congr 1; show Int.negSucc (a + b) = Int.negSucc a - (b : Int); omega)
    | negSucc b => exact (iSubNN_eq k b a).trans (by congr 1; omega)
theorem iMulV_eq (k : IntKind) (x y : Int) : iMulV k x y = k.wrap (x * y) := by
  cases x with
  | ofNat a => cases y with
    | ofNat b => exact nat_eq k _
    | negSucc b => exact wrapF_eq k _
  | negSucc a => exact wrapF_eq k _
theorem ieq_eq (x y : Int) : ieq x y = (x == y) := by
  cases x with
  | ofNat a => cases y with
    | ofNat b => show Nat.beq a b = _; rw [Bool.eq_iff_iff]; simp only [Nat.beq_eq, beq_iff_eq]; exact ⟨fun h => by rw [h], fun h => Int.ofNat.inj h⟩
    | negSucc b => show false = _; symm; simp
  | negSucc a => cases y with
    | ofNat b => show false = _; symm; simp
    | negSucc b => show Nat.beq a b = _; rw [Bool.eq_iff_iff]; simp [Nat.beq_eq]
theorem ile_eq (x y : Int) : ile x y = decide (x ≤ y) := by
  cases x with
  | ofNat a => cases y with
    | ofNat b => show Nat.ble a b = _; rw [Bool.eq_iff_iff]; simp [Nat.ble_eq]
    | negSucc b => show false = _; symm; simp; omega
  | negSucc a => cases y with
    | ofNat b => show true = _; symm; simp; omega
    | negSucc b => show Nat.ble b a = _; rw [Bool.eq_iff_iff]; simp [Nat.ble_eq]; omega
theorem keq_eq {x y : IntKind} (h : keq x y = true) : x = y := by
  cases x <;> cases y <;> first | rfl | (exact absurd h (by decide))
theorem keq_refl (x : IntKind) : keq x x = true := by cases x <;> rfl
theorem beq2_eq (x y : Bool) : beq2 x y = (x == y) := by cases x <;> cases y <;> rfl
theorem bnot_eq (b : Bool) : bsel b false true = !b := by cases b <;> rfl
end Go.Ev
