import Derived.Test.YtfmgnnfghdjpfaaEvQ
namespace Go.Ev
variable {P : Program} {σ : Env} {S : St} {w : World}

/-- a bound method whose receiver is at hand -/
def MthSound (P : Program) : Prop := ∀ (σ : Env) (w : World) (n : String) (tbl : List (Nat × Nat × Option (Bool × Nat))) (v v' : AV) (t : TypeId) (V : Value), tbl = methodTable P n P.types.toList 0 → Rv P σ v (.iface t V) →
  mthOk n tbl v = some v' → (nilAhead (P.types.size + Made.depth) t V n).run P w = .ok (some false) w

structure Asked (P : Program) : Prop where
  eq : EqSound P
  key : KeySound P
  mth : MthSound P

theorem nilchk_sound (hA : Asked P) {x v : AV} {X : Value} {o : Oper} {a : Act} {xo : Operand} (ho : o.op = .nilCheck xo) (he : a.eval xo = X) (hx : Rv P σ x X) (h : nilchkV x = some v) :
    ∃ V, (execOp a.eval o).run P w = .ok (.value V) w ∧ Rv P σ v V := by
  cases x <;> simp only [nilchkV, reduceCtorEq, Option.some.injEq] at h
  case ptr =>
    subst h
    have hx' := hx
    simp only [Rv] at hx'
    obtain ⟨L, hL, rfl⟩ := hx'
    exact ⟨_, by simp only [execOp, ho, he]; rfl, hx⟩
  case fn =>
    subst h
    have hx' := hx
    simp only [Rv] at hx'
    obtain ⟨A, B, rfl, _⟩ := hx'
    exact ⟨_, by simp only [execOp, ho, he]; rfl, hx⟩
  case yld =>
    subst h
    have hx' := hx
    simp only [Rv] at hx'
    obtain ⟨L, hL, rfl⟩ := hx'
    exact ⟨_, by simp only [execOp, ho, he]; rfl, hx⟩
  case iface =>
    subst h
    have hx' := hx
    simp only [Rv] at hx'
    obtain ⟨W, rfl, _⟩ := hx'
    exact ⟨_, by simp only [execOp, ho, he]; rfl, hx⟩
  case mth n tbl u =>
    have hx' := hx
    simp only [Rv] at hx'
    obtain ⟨W, rfl, htbl, hu⟩ := hx'
    have hv : v = .mth n tbl u := by
      unfold mthOk at h
      split at h
      · obtain ⟨r, _, h⟩ := osel_eq_some h
        split at h
        · cases h; rfl
        · cases h; rfl
        · cases h
      · cases h
    have hW : ∃ t V, W = .iface t V := by
      unfold mthOk at h
      split at h
      · simp only [Rv] at hu; obtain ⟨V, rfl, _⟩ := hu; exact ⟨_, V, rfl⟩
      · cases h
    obtain ⟨t, V, rfl⟩ := hW
    have hn := hA.mth σ w n tbl u v t V htbl hu h
    refine ⟨.func (.method n) #[.iface t V] #[], ?_, by rw [hv]; exact hx⟩
    simp only [execOp, ho, he]
    simp [hn]

theorem tassert_sound {x v z : AV} {X : Value} {xt t : TypeId} {ok : Bool} {d : TypeDesc} (ht : P.underlying t = some d) (hd : ∀ m, d ≠ .interface m) (hz : zeroT P t = some z) (hx : Rv P σ x X) (h : tassertV x t z ok = some v) :
    ∃ V, (Instr.typeAssert X xt t ok).run P w = .ok V w ∧ Rv P σ v V := by
  obtain ⟨i, Z, hi, hZ, hzr⟩ := zeroT_some (σ := σ) hz
  have hz0 : (zeroValue t).run P w = .ok Z w := run_zero hi hZ
  have hfail : ∀ v', (.tup [z, .bool false] : AV) = v' → Rv P σ v' (.tuple #[Z, .bool false]) := fun v' hv => by
    subst hv
    simp only [Rv]
    exact ⟨_, rfl, Rvs_cons.2 ⟨_, _, rfl, hzr, Rvs_cons.2 ⟨_, _, rfl, by simp only [Rv], Rvs_nil.2 rfl⟩⟩⟩
  cases x <;> simp only [tassertV, reduceCtorEq] at h <;> simp only [Rv] at hx
  · obtain ⟨W, rfl, hW⟩ := hx
    rename_i t' u
    rw [bsel_eq] at h
    split at h
    · rename_i he
      rw [Nat.beq_eq] at he
      subst he
      cases h
      refine ⟨if ok = true then .tuple #[W, .bool true] else W, ?_, withOk_sound hW⟩
      cases d <;> first | (exact absurd rfl (hd _)) | simp [Instr.typeAssert, run_underlying ht]
    · rename_i he
      rw [Nat.beq_eq] at he
      obtain ⟨h1, h2⟩ := bsel_some h
      subst h1
      cases h2
      refine ⟨.tuple #[Z, .bool false], ?_, hfail _ rfl⟩
      have hne : ¬ (t' = t) := fun e => he e.symm
      cases d <;> first | (exact absurd rfl (hd _)) | simp [Instr.typeAssert, run_underlying ht, hne, hz0]
  · subst hx
    obtain ⟨h1, h2⟩ := bsel_some h
    subst h1
    cases h2
    refine ⟨.tuple #[Z, .bool false], ?_, hfail _ rfl⟩
    cases d <;> first | (exact absurd rfl (hd _)) | simp [Instr.typeAssert, run_underlying ht, hz0]

theorem max_sound : ∀ {xs : List AV} {Xs : List Value} {x v : AV} {X : Value}, Rvs P σ xs Xs → Rv P σ x X → minmaxV true xs x = some v → ∃ V, (Xs.foldlM Builtin.max2 X).run P w = .ok V w ∧ Rv P σ v V
  | [], Xs, x, v, X, hxs, hx, h => by
    rw [Rvs_nil] at hxs
    subst hxs
    simp only [minmaxV, Option.some.injEq] at h
    subst h
    exact ⟨X, rfl, hx⟩
  | y :: xs, Xs, x, v, X, hxs, hx, h => by
    rw [Rvs_cons] at hxs
    obtain ⟨Y, Ys, rfl, hY, hYs⟩ := hxs
    unfold minmaxV at h
    split at h
    · rename_i e; cases e
    · rename_i k' b vs k a e
      cases e
      obtain ⟨h1, h2⟩ := bsel_some h
      simp only [Rv] at hY hx
      subst hY; subst hx
      have := keq_eq h1
      subst this
      obtain ⟨V, h3, h4⟩ := max_sound (X := .int k (if b > a then b else a)) hYs (by
        simp only [Rv, bsel_true]
        rw [bsel_eq, ile_eq]
        simp only [decide_eq_true_eq]
        congr 1
        split <;> split <;> omega) h2
      exact ⟨V, by rw [List.foldlM_cons]; simp only [Sem.run_bind, Builtin.max2, Sem.run_pure, Result.andThen_ok]; exact h3, h4⟩
    · cases h
theorem min_sound : ∀ {xs : List AV} {Xs : List Value} {x v : AV} {X : Value}, Rvs P σ xs Xs → Rv P σ x X → minmaxV false xs x = some v → ∃ V, (Xs.foldlM Builtin.min2 X).run P w = .ok V w ∧ Rv P σ v V
  | [], Xs, x, v, X, hxs, hx, h => by
    rw [Rvs_nil] at hxs
    subst hxs
    simp only [minmaxV, Option.some.injEq] at h
    subst h
    exact ⟨X, rfl, hx⟩
  | y :: xs, Xs, x, v, X, hxs, hx, h => by
    rw [Rvs_cons] at hxs
    obtain ⟨Y, Ys, rfl, hY, hYs⟩ := hxs
    unfold minmaxV at h
    split at h
    · rename_i e; cases e
    · rename_i k' b vs k a e
      cases e
      obtain ⟨h1, h2⟩ := bsel_some h
      simp only [Rv] at hY hx
      subst hY; subst hx
      have := keq_eq h1
      subst this
      obtain ⟨V, h3, h4⟩ := min_sound (X := .int k (if b < a then b else a)) hYs (by
        simp only [Rv, bsel_false]
        rw [bsel_eq, ile_eq]
        simp only [decide_eq_true_eq]
        congr 1
        split <;> split <;> omega) h2
      exact ⟨V, by rw [List.foldlM_cons]; simp only [Sem.run_bind, Builtin.min2, Sem.run_pure, Result.andThen_ok]; exact h3, h4⟩
    · cases h

theorem lenSl_sound {t ty : TypeId} {e : TypeId} (ht : P.underlying t = some (.slice e)) {x v : AV} {X : Value} (hx : Rv P σ x X) (h : lenSlV x = some v) : ∃ V, (Builtin.len_ #[t] ty #[X]).run P w = .ok V w ∧ Rv P σ v V := by
  cases x <;> simp only [lenSlV, reduceCtorEq, Option.some.injEq] at h <;> subst h <;> simp only [Rv] at hx
  · obtain ⟨L, _, rfl⟩ := hx; exact ⟨_, by simp [Builtin.len_, run_underlying ht]; rfl, by simp only [Rv]; rfl⟩
  · subst hx; exact ⟨_, by simp [Builtin.len_, run_underlying ht]; rfl, by simp only [Rv]; rfl⟩
  · obtain ⟨A, c, rfl⟩ := hx; exact ⟨_, by simp [Builtin.len_, run_underlying ht]; rfl, by simp only [Rv]; rfl⟩
theorem lenStr_sound {t ty : TypeId} (ht : P.underlying t = some .string) {x v : AV} {X : Value} (hx : Rv P σ x X) (h : lenStrV x = some v) : ∃ V, (Builtin.len_ #[t] ty #[X]).run P w = .ok V w ∧ Rv P σ v V := by
  cases x <;> simp only [lenStrV, reduceCtorEq, Option.some.injEq] at h <;> subst h <;> simp only [Rv] at hx
  obtain ⟨rfl, _⟩ := hx
  refine ⟨_, by simp [Builtin.len_, run_underlying ht]; rfl, ?_⟩
  simp only [Rv, lenL_eq, mkStr_size]
  rfl
theorem capSl_sound {t ty : TypeId} {e : TypeId} (ht : P.underlying t = some (.slice e)) {x v : AV} {X : Value} (hx : Rv P σ x X) (h : capSlV x = some v) : ∃ V, (Builtin.cap_ #[t] ty #[X]).run P w = .ok V w ∧ Rv P σ v V := by
  unfold capSlV at h
  split at h
  · cases h; simp only [Rv] at hx; subst hx; exact ⟨_, by simp [Builtin.cap_, run_underlying ht]; rfl, by simp only [Rv]; rfl⟩
  · cases h; simp only [Rv] at hx; obtain ⟨L, _, rfl⟩ := hx; exact ⟨_, by simp [Builtin.cap_, run_underlying ht]; rfl, by simp only [Rv]; rfl⟩
  · cases h
theorem MapR.length : ∀ {m : List (AV × AV)} {es : List MapEntry}, MapR P σ m es → es.length = m.length
  | [], es, h => by have h : es = [] := h; subst h; rfl
  | _ :: m, es, h => by obtain ⟨e, es', rfl, _, _, h⟩ := h; simp [h.length]
theorem lenMap_sound {t ty kt et : TypeId} (ht : P.underlying t = some (.map kt et)) (hR : Rep P σ S w) {x : AV} {X : Value} {es : List (AV × AV)} (hx : Rv P σ x X) (h : mapAt S.h x = some es) :
    ∃ V, (Builtin.len_ #[t] ty #[X]).run P w = .ok V w ∧ Rv P σ (.int .i64 (.ofNat (lenL es))) V := by
  obtain ⟨ms, h3, h4⟩ := mapAt_some hR hx h
  have hl := h3.length
  rcases h4 with ⟨rfl, rfl⟩ | ⟨r, c, rfl, hc⟩
  · refine ⟨_, by simp [Builtin.len_, run_underlying ht]; rfl, ?_⟩
    simp only [Rv, lenL_eq, ← hl]
    rfl
  · have hg : (getObj r).run P w = .ok (.map ms c) w := by simp [getObj, Sem.run, hc]
    refine ⟨_, by simp [Builtin.len_, run_underlying ht, hg]; rfl, ?_⟩
    simp only [Rv, lenL_eq, ← hl]
    simp [goInt]
end Go.Ev
