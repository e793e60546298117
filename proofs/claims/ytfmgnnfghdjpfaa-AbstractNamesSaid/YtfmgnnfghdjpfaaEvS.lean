import Derived.Test.YtfmgnnfghdjpfaaEvR
namespace Go.Ev
variable {P : Program} {σ : Env} {S : St} {w : World}

theorem q_some {o : Option QOp} {r : AOp} (h : q o = some r) : ∃ x, o = some x ∧ r = .q x := by
  cases o with
  | none => cases h
  | some x => cases h; exact ⟨x, rfl, rfl⟩
theorem al_some {o : Option AlOp} {r : AOp} (h : al o = some r) : ∃ x, o = some x ∧ r = .a x := by
  cases o with
  | none => cases h
  | some x => cases h; exact ⟨x, rfl, rfl⟩
theorem xx_some {o : Option XOp} {r : AOp} (h : xx o = some r) : ∃ x, o = some x ∧ r = .x x := by
  cases o with
  | none => cases h
  | some x => cases h; exact ⟨x, rfl, rfl⟩

theorem bind_some' {α β : Type} {o : Option α} {f : α → Option β} {r : β} (h : (o >>= f) = some r) : ∃ a, o = some a ∧ f a = some r := by
  cases o with
  | none => cases h
  | some a => exact ⟨a, rfl, h⟩

/-- A QUIET OPERATION. -/
theorem evQ_sound (hA : Asked P) {o : Oper} {qo : QOp} (hc : cOp P o.op = some (.q qo)) {F : Fr} {a : Act} (hF : FrR P σ F a.tmps) (hR : Rep P σ S w) {v : AV} (hv : evQ qo F S.h = some v) :
    ∃ V, (execOp a.eval o).run P w = .ok (.value V) w ∧ Rv P σ v V := by
  have lift : ∀ {s : Sem Value}, execOp a.eval o = (do pure (.value (← s))) → (∃ V, s.run P w = .ok V w ∧ Rv P σ v V) → ∃ V, (execOp a.eval o).run P w = .ok (.value V) w ∧ Rv P σ v V := by
    rintro s he ⟨V, h1, h2⟩
    exact ⟨V, by rw [he]; simp [h1], h2⟩
  obtain ⟨dst, op, type, pos, after, guard⟩ := o
  simp only at hc
  cases op with
  | move x =>
    obtain ⟨y, h1, h2⟩ := q_some hc; cases h2
    obtain ⟨X, hX, h1⟩ := bind_some' h1; cases h1
    cases hv
    exact ⟨_, rfl, opd_sound hF hR hX⟩
  | assign x =>
    obtain ⟨y, h1, h2⟩ := q_some hc; cases h2
    obtain ⟨X, hX, h1⟩ := bind_some' h1; cases h1
    cases hv
    exact ⟨_, rfl, opd_sound hF hR hX⟩
  | pick c x y =>
    obtain ⟨z, h1, h2⟩ := q_some hc; cases h2
    obtain ⟨C, hC, h1⟩ := bind_some' h1
    obtain ⟨X, hX, h1⟩ := bind_some' h1
    obtain ⟨Y, hY, h1⟩ := bind_some' h1; cases h1
    exact pick_sound (opd_sound hF hR hC) (opd_sound hF hR hX) (opd_sound hF hR hY) hv
  | alloc t => obtain ⟨y, _, h2⟩ := al_some hc; cases h2
  | box t x => obtain ⟨y, _, h2⟩ := al_some hc; cases h2
  | build t ps =>
    simp only [cOp] at hc
    split at hc
    · rename_i fs hu
      rw [Bool.cond_eq_ite] at hc
      split at hc
      · rename_i hk
        obtain ⟨y, h1, h2⟩ := q_some hc; cases h2
        obtain ⟨z, hz, h1⟩ := bind_some' h1
        obtain ⟨qs, hq, h1⟩ := bind_some' h1; cases h1
        obtain ⟨cs, h3, h4⟩ := osel_eq_some (show (osel (fillP z (partsV F qs)) fun cs => some (.agg cs)) = some v from hv)
        cases h4
        exact lift rfl (build_struct_sound hF hR hu hk hz hq h3)
      · cases hc
    · rename_i n e hu
      obtain ⟨y, h1, h2⟩ := q_some hc; cases h2
      obtain ⟨i, hi, h1⟩ := bind_some' h1
      obtain ⟨z, hz, h1⟩ := bind_some' h1
      obtain ⟨qs, hq, h1⟩ := bind_some' h1; cases h1
      obtain ⟨cs, h3, h4⟩ := osel_eq_some (show (osel (fillP z (partsV F qs)) fun cs => some (.agg cs)) = some v from hv)
      cases h4
      exact lift rfl (build_array_sound hF hR hu hi hz hq h3)
    · cases hc
  | buildSlice t n ps => obtain ⟨y, _, h2⟩ := al_some hc; cases h2
  | insert t m k x =>
    simp only [cOp] at hc
    split at hc
    · obtain ⟨y, _, h2⟩ := xx_some hc; cases h2
    · cases hc
  | load t x =>
    obtain ⟨y, h1, h2⟩ := q_some hc; cases h2
    obtain ⟨⟨agg, n⟩, hag, h1⟩ := bind_some' h1
    obtain ⟨X, hX, h1⟩ := bind_some' h1; cases h1
    exact lift rfl (qLd_sound hag hR (opd_sound hF hR hX) hv)
  | store t x y =>
    obtain ⟨y, _, h2⟩ := xx_some hc; cases h2
  | ready g => cases hc
  | waits g => cases hc
  | nilCheck x =>
    obtain ⟨y, h1, h2⟩ := q_some hc; cases h2
    obtain ⟨X, hX, h1⟩ := bind_some' h1; cases h1
    exact nilchk_sound hA rfl rfl (opd_sound hF hR hX) hv
  | binOp op t x y t' =>
    obtain ⟨z, h1, h2⟩ := q_some hc; cases h2
    obtain ⟨X, hX, h1⟩ := bind_some' h1
    obtain ⟨Y, hY, h1⟩ := bind_some' h1; cases h1
    exact lift rfl (bin_sound hA.eq (opd_sound hF hR hX) (opd_sound hF hR hY) hv)
  | unOp op t x =>
    obtain ⟨z, h1, h2⟩ := q_some hc; cases h2
    obtain ⟨X, hX, h1⟩ := bind_some' h1; cases h1
    exact lift rfl (un_sound (opd_sound hF hR hX) hv)
  | convert src dst x =>
    simp only [cOp] at hc
    split at hc
    · rename_i k j hs hd
      obtain ⟨z, h1, h2⟩ := q_some hc; cases h2
      obtain ⟨X, hX, h1⟩ := bind_some' h1; cases h1
      exact lift rfl (conv_sound hR (opd_sound hF hR hX) hv ⟨⟨_, hs⟩, hd⟩)
    · rename_i hs hd
      obtain ⟨z, h1, h2⟩ := q_some hc; cases h2
      obtain ⟨X, hX, h1⟩ := bind_some' h1; cases h1
      exact lift rfl (conv_sound hR (opd_sound hF hR hX) hv ⟨hs, hd⟩)
    · rename_i k hs hd
      obtain ⟨z, h1, h2⟩ := q_some hc; cases h2
      obtain ⟨X, hX, h1⟩ := bind_some' h1; cases h1
      exact lift rfl (conv_sound hR (opd_sound hF hR hX) hv ⟨⟨_, hs⟩, hd⟩)
    · rename_i e hs hd
      split at hc
      · rename_i he
        obtain ⟨z, h1, h2⟩ := q_some hc; cases h2
        obtain ⟨X, hX, h1⟩ := bind_some' h1; cases h1
        exact lift rfl (conv_sound hR (opd_sound hF hR hX) hv ⟨e, hs, he, hd⟩)
      · cases hc
    · split at hc
      · cases hc
      · cases hc
    · cases hc
  | sliceToArrayPointer t x => cases hc
  | makeInterface t x =>
    simp only [cOp] at hc
    split at hc
    · cases hc
    · rename_i d hni hu
      obtain ⟨z, h1, h2⟩ := q_some hc; cases h2
      obtain ⟨X, hX, h1⟩ := bind_some' h1; cases h1
      cases hv
      refine lift rfl ⟨.iface t (a.eval x), ?_, by simp only [Rv]; exact ⟨_, rfl, opd_sound hF hR hX⟩⟩
      simp only [Instr.makeInterface, Sem.run_bind, run_underlying hu, Result.andThen_ok]
      cases d <;> first | rfl | (exact absurd hu (by simpa using hni _))
    · cases hc
  | makeFunc fn first cap =>
    cases fn with
    | func f =>
      obtain ⟨z, h1, h2⟩ := q_some hc; cases h2
      obtain ⟨X, hX, h1⟩ := bind_some' h1
      obtain ⟨Y, hY, h1⟩ := bind_some' h1; cases h1
      cases hv
      refine lift rfl ⟨_, rfl, ?_⟩
      simp only [Rv]
      refine ⟨(first.map a.eval).toList, (cap.map a.eval).toList, rfl, ?_, ?_⟩
      · rw [Array.toList_map]; exact opds_sound hF hR hX
      · rw [Array.toList_map]; exact opds_sound hF hR hY
    | method name =>
      simp only [cOp] at hc
      split at hc
      · rename_i x hx hy
        obtain ⟨z, h1, h2⟩ := q_some hc; cases h2
        obtain ⟨X, hX, h1⟩ := bind_some' h1; cases h1
        cases hv
        refine lift rfl ⟨_, rfl, ?_⟩
        simp only [Rv]
        refine ⟨a.eval x, ?_, trivial, opd_sound hF hR hX⟩
        congr 1
        · apply Array.ext'; rw [Array.toList_map, hx]; rfl
        · apply Array.ext'; rw [Array.toList_map, hy]; rfl
      · cases hc
    | methodOf t name => cases hc
    | via t path f p => cases hc
    | yield l => cases hc
  | makeMap t r => cases r <;> simp only [cOp, reduceCtorEq] at hc; obtain ⟨y, _, h2⟩ := al_some hc; cases h2
  | makeChan t x => cases hc
  | makeSlice t l c => obtain ⟨y, _, h2⟩ := al_some hc; cases h2
  | slice t x lo hh mx =>
    simp only [cOp, Bool.cond_eq_ite] at hc
    split at hc
    · cases hc
    · rename_i hguard
      have hhm : mx.isSome = true → hh.isSome = true := fun hm => by
        cases hh with
        | none => simp [hm] at hguard
        | some _ => rfl
      split at hc
      · rename_i hu
        obtain ⟨z, h1, h2⟩ := q_some hc; cases h2
        obtain ⟨X, hX, h1⟩ := bind_some' h1
        obtain ⟨Lo, hLo, h1⟩ := bind_some' h1
        obtain ⟨Hi, hHi, h1⟩ := bind_some' h1
        obtain ⟨Mx, hMx, h1⟩ := bind_some' h1; cases h1
        have hv : slcV .str (X.val F) Lo Hi Mx F = some v := hv
        have hx := opd_sound hF hR hX
        generalize X.val F = xv at hv hx
        cases xv <;> simp only [slcV, reduceCtorEq] at hv
        refine lift rfl ?_
        have := slStr_sound hu hF hR hLo hHi hMx hx hv
        obtain ⟨V, h3, h4⟩ := this
        exact ⟨V, by simp only [Instr.sliceAt, Sem.run_bind, run_underlying hu, Result.andThen_ok]; exact h3, h4⟩
      · rename_i e hu
        obtain ⟨z, h1, h2⟩ := q_some hc; cases h2
        obtain ⟨i, hi, h1⟩ := bind_some' h1
        obtain ⟨X, hX, h1⟩ := bind_some' h1
        obtain ⟨Lo, hLo, h1⟩ := bind_some' h1
        obtain ⟨Hi, hHi, h1⟩ := bind_some' h1
        obtain ⟨Mx, hMx, h1⟩ := bind_some' h1; cases h1
        have hv : slcV (.slice i.size) (X.val F) Lo Hi Mx F = some v := hv
        have hx := opd_sound hF hR hX
        generalize X.val F = xv at hv hx
        cases xv <;> simp only [slcV, reduceCtorEq] at hv
        · refine lift rfl ?_
          obtain ⟨V, h3, h4⟩ := slSl_sound hu hi hF hR hLo hHi hMx hhm hx hv
          exact ⟨V, by simp only [Instr.sliceAt, Sem.run_bind, run_underlying hu, Result.andThen_ok]; exact h3, h4⟩
        · refine lift rfl ?_
          obtain ⟨V, h3, h4⟩ := slNil_sound hu hi hF hR hLo hHi hMx hhm hx hv
          exact ⟨V, by simp only [Instr.sliceAt, Sem.run_bind, run_underlying hu, Result.andThen_ok]; exact h3, h4⟩
        · refine lift rfl ?_
          obtain ⟨V, h3, h4⟩ := slEmp_sound hu hi hF hR hLo hHi hMx hhm hx hv
          exact ⟨V, by simp only [Instr.sliceAt, Sem.run_bind, run_underlying hu, Result.andThen_ok]; exact h3, h4⟩
      · rename_i n e hu
        obtain ⟨z, h1, h2⟩ := q_some hc; cases h2
        obtain ⟨i, hi, h1⟩ := bind_some' h1
        obtain ⟨X, hX, h1⟩ := bind_some' h1
        obtain ⟨Lo, hLo, h1⟩ := bind_some' h1
        obtain ⟨Hi, hHi, h1⟩ := bind_some' h1
        obtain ⟨Mx, hMx, h1⟩ := bind_some' h1; cases h1
        have hv : slcV (.arr n i.size) (X.val F) Lo Hi Mx F = some v := hv
        have hx := opd_sound hF hR hX
        generalize X.val F = xv at hv hx
        cases xv <;> simp only [slcV, reduceCtorEq] at hv
        exact lift rfl (slArr_sound hu hi hF hR hLo hHi hMx hhm hx hv)
      · cases hc
  | fieldAddr t x f =>
    simp only [cOp] at hc
    split at hc
    · rename_i fs hu
      obtain ⟨z, h1, h2⟩ := q_some hc; cases h2
      obtain ⟨fd, hf, h1⟩ := bind_some' h1
      obtain ⟨i, hi, h1⟩ := bind_some' h1
      split at h1
      · cases h1
      · rename_i h0
        obtain ⟨X, hX, h1⟩ := bind_some' h1; cases h1
        exact lift rfl (faddr_sound hu hf hi h0 (opd_sound hF hR hX) hv)
    · cases hc
  | field t x f =>
    simp only [cOp] at hc
    split at hc
    · rename_i fs hu
      obtain ⟨z, h1, h2⟩ := q_some hc; cases h2
      obtain ⟨fd, hf, h1⟩ := bind_some' h1
      obtain ⟨⟨agg, n⟩, hag, h1⟩ := bind_some' h1
      obtain ⟨X, hX, h1⟩ := bind_some' h1; cases h1
      exact lift rfl (fld_sound hu hf hag (opd_sound hF hR hX) hv)
    · cases hc
  | indexAddr t x ix =>
    simp only [cOp] at hc
    split at hc
    · rename_i e hu
      obtain ⟨z, h1, h2⟩ := q_some hc; cases h2
      obtain ⟨i, hi, h1⟩ := bind_some' h1
      obtain ⟨X, hX, h1⟩ := bind_some' h1
      obtain ⟨I, hI, h1⟩ := bind_some' h1; cases h1
      obtain ⟨j, h3, h4⟩ := osel_eq_some (show (osel (natOf (I.val F)) fun j => iaddrV (.slice i.size) (X.val F) j) = some v from hv)
      obtain ⟨k, hk⟩ := natOf_some h3
      have hi' := opd_sound hF hR hI
      rw [hk] at hi'
      simp only [Rv] at hi'
      exact lift rfl (iaddr_sound_sl hu hi (opd_sound hF hR hX) hi' h4)
    · rename_i n e hu
      obtain ⟨z, h1, h2⟩ := q_some hc; cases h2
      obtain ⟨i, hi, h1⟩ := bind_some' h1
      obtain ⟨X, hX, h1⟩ := bind_some' h1
      obtain ⟨I, hI, h1⟩ := bind_some' h1; cases h1
      obtain ⟨j, h3, h4⟩ := osel_eq_some (show (osel (natOf (I.val F)) fun j => iaddrV (.arr n i.size) (X.val F) j) = some v from hv)
      obtain ⟨k, hk⟩ := natOf_some h3
      have hi' := opd_sound hF hR hI
      rw [hk] at hi'
      simp only [Rv] at hi'
      exact lift rfl (iaddr_sound_arr hu hi (opd_sound hF hR hX) hi' h4)
    · cases hc
  | index t x ix =>
    simp only [cOp] at hc
    split at hc
    · rename_i hu
      obtain ⟨z, h1, h2⟩ := q_some hc; cases h2
      obtain ⟨X, hX, h1⟩ := bind_some' h1
      obtain ⟨I, hI, h1⟩ := bind_some' h1; cases h1
      obtain ⟨j, h3, h4⟩ := osel_eq_some (show (osel (natOf (I.val F)) fun j => idxStrV (X.val F) j) = some v from hv)
      obtain ⟨k, hk⟩ := natOf_some h3
      have hi' := opd_sound hF hR hI
      rw [hk] at hi'
      simp only [Rv] at hi'
      exact lift rfl (idxStr_sound hu (opd_sound hF hR hX) hi' h4)
    · rename_i n e hu
      obtain ⟨z, h1, h2⟩ := q_some hc; cases h2
      obtain ⟨⟨agg, s⟩, hag, h1⟩ := bind_some' h1
      obtain ⟨X, hX, h1⟩ := bind_some' h1
      obtain ⟨I, hI, h1⟩ := bind_some' h1; cases h1
      obtain ⟨j, h3, h4⟩ := osel_eq_some (show (osel (natOf (I.val F)) fun j => idxArrV (X.val F) agg n s j) = some v from hv)
      obtain ⟨k, hk⟩ := natOf_some h3
      have hi' := opd_sound hF hR hI
      rw [hk] at hi'
      simp only [Rv] at hi'
      exact lift rfl (idxArr_sound hu hag (opd_sound hF hR hX) hi' h4)
    · cases hc
  | lookup t m k ok =>
    simp only [cOp] at hc
    split at hc
    · rename_i kt et hu
      obtain ⟨z, h1, h2⟩ := q_some hc; cases h2
      obtain ⟨e, he, h1⟩ := bind_some' h1
      obtain ⟨zv, hz, h1⟩ := bind_some' h1
      obtain ⟨M, hM, h1⟩ := bind_some' h1
      obtain ⟨K, hK, h1⟩ := bind_some' h1; cases h1
      exact lift rfl (lookup_sound hA.eq hA.key hu he hz hR (opd_sound hF hR hM) (opd_sound hF hR hK) hv)
    · cases hc
  | mapUpdate t m k x =>
    simp only [cOp] at hc
    split at hc
    · obtain ⟨y, _, h2⟩ := xx_some hc; cases h2
    · cases hc
  | mapEntry t m k => cases hc
  | entryStore t m s x => cases hc
  | range t x => cases hc
  | next x b => cases hc
  | entry x => cases hc
  | typeAssert x xt t ok =>
    simp only [cOp] at hc
    split at hc
    · cases hc
    · rename_i d hni hu
      obtain ⟨z, h1, h2⟩ := q_some hc; cases h2
      obtain ⟨zv, hz, h1⟩ := bind_some' h1
      obtain ⟨X, hX, h1⟩ := bind_some' h1; cases h1
      exact lift rfl (tassert_sound hu (fun m e => by subst e; exact hni m rfl) hz (opd_sound hF hR hX) hv)
    · cases hc
  | extract x i =>
    obtain ⟨z, h1, h2⟩ := q_some hc; cases h2
    obtain ⟨X, hX, h1⟩ := bind_some' h1; cases h1
    exact lift rfl (extract_sound (opd_sound hF hR hX) hv)
  | call c =>
    obtain ⟨callee, args, argTypes⟩ := c
    cases callee with
    | value f =>
      simp only [cOp] at hc
      split at hc
      · cases hc
      · obtain ⟨y, _, h2⟩ := xx_some hc; cases h2
    | invoke r m => cases hc
    | builtin b =>
      have arr : ∀ {α : Type} {x : Array α} {l : List α}, x.toList = l → x = l.toArray := fun h => by apply Array.ext'; rw [h]
      simp only [cOp] at hc
      split at hc
      · rename_i x t hx ht
        have := arr hx; subst this
        have := arr ht; subst this
        split at hc
        · rename_i hu
          obtain ⟨z, h1, h2⟩ := q_some hc; cases h2
          obtain ⟨X, hX, h1⟩ := bind_some' h1; cases h1
          exact lift (s := Builtin.len_ #[t] type #[a.eval x]) (by simp [execOp, resolve, invoke, builtin]) (lenStr_sound hu (opd_sound hF hR hX) hv)
        · rename_i e hu
          obtain ⟨z, h1, h2⟩ := q_some hc; cases h2
          obtain ⟨X, hX, h1⟩ := bind_some' h1; cases h1
          exact lift (s := Builtin.len_ #[t] type #[a.eval x]) (by simp [execOp, resolve, invoke, builtin]) (lenSl_sound hu (opd_sound hF hR hX) hv)
        · rename_i n e hu
          obtain ⟨z, h1, h2⟩ := q_some hc; cases h2
          cases h1
          cases hv
          refine lift (s := Builtin.len_ #[t] type #[a.eval x]) (by simp [execOp, resolve, invoke, builtin]) ⟨goInt n, ?_, by simp only [Rv]; rfl⟩
          simp [Builtin.len_, run_underlying hu]
        · rename_i kt et hu
          obtain ⟨z, h1, h2⟩ := q_some hc; cases h2
          obtain ⟨X, hX, h1⟩ := bind_some' h1; cases h1
          obtain ⟨es, h3, h4⟩ := osel_eq_some (show (osel (mapAt S.h (X.val F)) fun es => some (.int .i64 (.ofNat (lenL es)))) = some v from hv)
          cases h4
          exact lift (s := Builtin.len_ #[t] type #[a.eval x]) (by simp [execOp, resolve, invoke, builtin]) (lenMap_sound hu hR (opd_sound hF hR hX) h3)
        · cases hc
      · rename_i x t hx ht
        have := arr hx; subst this
        have := arr ht; subst this
        split at hc
        · rename_i e hu
          obtain ⟨z, h1, h2⟩ := q_some hc; cases h2
          obtain ⟨X, hX, h1⟩ := bind_some' h1; cases h1
          exact lift (s := Builtin.cap_ #[t] type #[a.eval x]) (by simp [execOp, resolve, invoke, builtin]) (capSl_sound hu (opd_sound hF hR hX) hv)
        · cases hc
      · obtain ⟨z, h1, h2⟩ := q_some hc; cases h2
        obtain ⟨Xs, hXs, h1⟩ := bind_some' h1; cases h1
        have hxs := opds_sound hF hR hXs
        have hv : minmaxL true (valsOf Xs F) = some v := hv
        refine lift (s := Builtin.max_ argTypes type (args.map a.eval)) rfl ?_
        unfold Builtin.max_
        rw [Array.toList_map]
        cases hvl : valsOf Xs F with
        | nil => rw [hvl] at hv; simp [minmaxL] at hv
        | cons u us =>
          rw [hvl] at hv hxs
          rw [Rvs_cons] at hxs
          obtain ⟨U, Us, he, hU, hUs⟩ := hxs
          rw [he]
          exact max_sound hUs hU hv
      · obtain ⟨z, h1, h2⟩ := q_some hc; cases h2
        obtain ⟨Xs, hXs, h1⟩ := bind_some' h1; cases h1
        have hxs := opds_sound hF hR hXs
        have hv : minmaxL false (valsOf Xs F) = some v := hv
        refine lift (s := Builtin.min_ argTypes type (args.map a.eval)) rfl ?_
        unfold Builtin.min_
        rw [Array.toList_map]
        cases hvl : valsOf Xs F with
        | nil => rw [hvl] at hv; simp [minmaxL] at hv
        | cons u us =>
          rw [hvl] at hv hxs
          rw [Rvs_cons] at hxs
          obtain ⟨U, Us, he, hU, hUs⟩ := hxs
          rw [he]
          exact min_sound hUs hU hv
      · split at hc
        · rw [Bool.cond_eq_ite] at hc
          split at hc
          · obtain ⟨y, _, h2⟩ := xx_some hc; cases h2
          · cases hc
        · cases hc
      · cases hc
  | go c => cases hc
  | defer c => cases hc
  | panic x => cases hc
  | send x y => cases hc
  | recv t x b => cases hc
  | select cs b => cases hc
end Go.Ev
