import Derived.Test.YtfmgnnfghdjpfaaEvZf
import Derived.ChangeSame
namespace Go.Ev
variable {P : Program} {σ : Env} {S : St} {w : World}

/-! ## Methods -/
theorem methodRow_fst {n : String} {t : Nat} {i : TypeInfo} {r : Nat × Nat × Option (Bool × Nat)} (h : methodRow P n t i = some r) : r.1 = t := by
  unfold methodRow at h
  split at h
  · rw [Bool.cond_eq_ite] at h
    split at h
    · cases h
    · split at h
      · cases h
      · split at h
        · cases h; rfl
        · obtain ⟨a, _, rfl⟩ := Option.map_eq_some_iff.1 h; rfl
        · cases h
        · cases h; rfl
        · cases h
  · cases h

theorem methodTable_find {n : String} : ∀ {is : List TypeInfo} {k t : Nat} {r : Nat × Option (Bool × Nat)}, findM t (methodTable P n is k) = some r → k ≤ t ∧ ∃ i, is[t - k]? = some i ∧ methodRow P n t i = some (t, r)
  | [], k, t, r, h => by simp [methodTable, findM] at h
  | i :: is, k, t, r, h => by
    simp only [methodTable] at h
    have next : findM t (methodTable P n is (k + 1)) = some r → k ≤ t ∧ ∃ j, (i :: is)[t - k]? = some j ∧ methodRow P n t j = some (t, r) := fun h => by
      obtain ⟨h1, j, h2, h3⟩ := methodTable_find h
      refine ⟨by omega, j, ?_, h3⟩
      rw [show t - k = (t - (k + 1)) + 1 by omega]
      simpa using h2
    split at h
    · rename_i x hx
      have hf := methodRow_fst hx
      obtain ⟨u, a⟩ := x
      simp only at hf
      subst hf
      simp only [findM, bsel_eq] at h
      split at h
      · rename_i he
        rw [Nat.beq_eq] at he
        subst he
        cases h
        exact ⟨Nat.le_refl _, i, by simp, hx⟩
      · exact next h
    · exact next h

theorem mth_sound (P : Program) : MthSound P := by
  intro σ w n tbl v v' t V htbl hv h
  subst htbl
  cases v <;> simp only [mthOk, reduceCtorEq] at h
  rename_i t' x
  simp only [Rv] at hv
  obtain ⟨W, hW, hx⟩ := hv
  cases hW
  obtain ⟨r, hr, h⟩ := osel_eq_some h
  obtain ⟨_, i, hi, hrow⟩ := methodTable_find hr
  have hlt : t < P.types.size := by
    have := (List.getElem?_eq_some_iff.1 hi).1
    simpa using this
  have hinfo : P.info? t = some i := by
    unfold Tables.info?
    rw [if_pos hlt]
    simpa using hi
  have hdep : P.types.size + Made.depth = (P.types.size + 99) + 1 := rfl
  rw [hdep]
  generalize P.types.size + 99 = fuel
  unfold methodRow at hrow
  split at hrow
  · rename_i m hm
    rw [Bool.cond_eq_ite] at hrow
    split at hrow
    · cases hrow
    · rename_i hp
      have hp : m.path.toList = [] := by simpa using hp
      split at hrow
      · cases hrow
      · rename_i f ptr hf
        simp only [nilAhead, Sem.run_bind, run_typeInfo w hinfo, Result.andThen_ok, hm, hp, followBlind, Sem.run_pure, hf]
        cases ptr with
        | true => simp
        | false =>
          split at hrow
          · contradiction
          · rename_i e hu _
            obtain ⟨a, ha, hra⟩ := Option.map_eq_some_iff.1 hrow
            cases hra
            simp only [Sem.run_bind, run_underlying hu, Result.andThen_ok]
            simp only at h
            cases x <;> simp only [reduceCtorEq] at h
            simp only [Rv] at hx
            obtain ⟨L, _, rfl⟩ := hx
            rfl
          · cases hrow
          · rename_i d hnp hni hu _
            simp only [Sem.run_bind, run_underlying hu, Result.andThen_ok]
            cases d <;> first | rfl | exact (hnp _ rfl).elim
          · cases hrow
  · cases hrow

theorem asked (P : Program) : Asked P := ⟨eq_sound P, key_sound P, mth_sound P⟩

theorem known {fns : T AFn} (hmix : P.follows .mixedOrders = true) (hfn : ∀ id fn, fns.get id = some fn → ∃ Fn, P.funcs[id]? = some Fn ∧ cFn P Fn = some fn) : Known P fns :=
  ⟨asked P, bits_sound P, hfn, fun call hcall => drawn_sound (asked P) (bits_sound P) hmix call hcall⟩

/-! ## The table of functions -/
noncomputable def table : List (Nat × AFn) → T AFn
  | [] => .e
  | (i, f) :: l => (table l).set i (some f)

theorem table_mem : ∀ {l : List (Nat × AFn)} {id : Nat} {fn : AFn}, (table l).get id = some fn → (id, fn) ∈ l
  | [], id, fn, h => by simp [table, T.get_e] at h
  | (i, f) :: l, id, fn, h => by
    simp only [table] at h
    rw [T.get_set] at h
    split at h
    · rename_i he
      subst he
      cases h
      simp
    · exact List.mem_cons_of_mem _ (table_mem h)

/-- a row of the table is the program's -/
def Row (P : Program) (p : Nat × AFn) : Prop := ∃ Fn, P.funcs[p.1]? = some Fn ∧ cFn P Fn = some p.2

theorem known_table {l : List (Nat × AFn)} (hmix : P.follows .mixedOrders = true) (hl : ∀ p ∈ l, Row P p) : Known P (table l) :=
  known hmix fun _ _ h => hl _ (table_mem h)

/-! ## A call from outside -/
/-- what lay there before lies there as it did -/
structure Kept (w w' : World) : Prop where
  os : w'.os = w.os
  output : w'.output = w.output
  heap : ∀ r, r < w.heap.size → w'.heap[r]? = w.heap[r]?
  size : w.heap.size ≤ w'.heap.size

theorem Kept.refl (w : World) : Kept w w := ⟨rfl, rfl, fun _ _ => rfl, Nat.le_refl _⟩

theorem Kept.but {w w' : World} (h : Kept w w') (may : MemPlace → Prop) : w.keptBut w' may := by
  refine ⟨h.os, h.output, fun i hi => ?_⟩
  rw [h.heap i hi]
  rw [Array.getElem?_eq_getElem hi]
  cases w.heap[i] <;> simp

theorem Ext.kept {σ' : Env} {S' : St} {w' : World} (h : Ext P σ S w σ' S' w') (hno : ∀ r, ¬ Own σ S r) : Kept w w' :=
  ⟨h.os, h.output, fun r hr => h.keep r hr (hno r), h.size⟩

def env0 (P : Program) : Env := fun b => if b < P.globals.size then some ⟨b, 0, 0⟩ else none
def st0 (P : Program) : St := ⟨.e, P.globals.size⟩

theorem rep0 (P : Program) (w : World) : Rep P (env0 P) (st0 P) w where
  blk := fun b bl h => by simp [st0, T.get_e] at h
  lt := fun b bl h => by simp [st0, T.get_e] at h
  fresh := fun b h => by simp only [st0] at h; simp only [env0]; rw [if_neg (by omega)]
  glob := fun g h => by simp only [env0]; rw [if_pos h]
  inj := fun b b' bl bl' L L' h => by simp [st0, T.get_e] at h

theorem own0 (P : Program) (r : Nat) : ¬ Own (env0 P) (st0 P) r := fun ⟨b, bl, L, h, _⟩ => by simp [st0, T.get_e] at h

/-- A CALL WITHOUT ARGUMENTS whose run gives a bool. -/
theorem calls_bool {fns : T AFn} (hK : Known P fns) {n id : Nat} {b : Bool} {S' : St} {Fn : Func} (hFn : P.funcs[id]? = some Fn) (hb : Fn.body.isSome = true) (hnm : (Fn.name == "runtime.NumGoroutine") = false)
    (h : (ev fns n).call (.fn id [] []) [] (st0 P) = some (.bool b, S')) (w : World) :
    Calls P id #[] w fun e w' => e = .returned (.bool b) ∧ Kept w w' := by
  have hs := ev_sound hK n _ _ _ _ _ h (env0 P) w (.func (.func id) ⟨[]⟩ ⟨[]⟩) [] (by simp only [Rv]; exact ⟨[], [], rfl, Rvs_nil.2 rfl, Rvs_nil.2 rfl⟩) (Rvs_nil.2 rfl) (rep0 P w)
  have hnm' : ¬ Fn.name = "runtime.NumGoroutine" := by simpa using hnm
  obtain ⟨C, hC⟩ := Option.isSome_iff_exists.1 hb
  have hrun : ((do let d ← Deferred.ofValue (.func (.func id) ⟨[]⟩ ⟨[]⟩) ⟨[]⟩; invoke d.target d.args : Sem Next)).run P w = .ok (.enter id #[]) w := by
    simp only [Deferred.ofValue, Sem.run_bind, Sem.run_pure, Result.andThen_ok, invoke, callFunc, run_program, hFn]
    simp [hC, hnm']
  rw [hrun] at hs
  have hs : CallsIn Fence.wide 0 P id #[] w _ := hs
  refine (callsIn_wide.1 hs).mono fun e w' h => ?_
  cases e with
  | returned V =>
    obtain ⟨σ', h1, h2⟩ := h
    simp only [Rv] at h1
    subst h1
    exact ⟨rfl, h2.kept (own0 P)⟩
  | _ => exact h.elim

/-- a run's result is 'true' -/
def okB (r : Option (AV × St)) : Bool :=
  match r with
  | some (.bool b, _) => b
  | _ => false
theorem okB_true {r : Option (AV × St)} (h : okB r = true) : ∃ S, r = some (.bool true, S) := by
  unfold okB at h
  split at h
  · subst h; exact ⟨_, rfl⟩
  · cases h

/-- The row's post, where all that lay there lies there as it did. -/
theorem post_kept {H : Type} {enc : TypeId × Value → H} {f : Func} {s : ChangeSpec} {apart fresh handsOn again : Bool} {W W' : World} {args : Array Value} {v : Value} {ds gs : List (DataW H)} {before pa pv : List MemPlace}
    (hW : DataW.Whole enc P f.params.toList s.vars apart W args.toList ds gs before)
    (hres : ∀ (b : Nat) (sp : Nat → Bool) (hd : Bool), DataW.TrodAll enc P W' b sp hd f.resultTypes.toList (v.resultList f.resultTypes.size) (s.fn H (ds ++ gs)).results [])
    (hargs : ∀ sp : Nat → Bool, (∀ p ∈ before, sp p.block = true) → DataW.TrodAll enc P W' 0 sp true f.params.toList args.toList (s.fn H (ds ++ gs)).args pa)
    (hvars : ∀ sp : Nat → Bool, (∀ p ∈ before, sp p.block = true) → DataW.TrodVars enc P W' sp s.vars (s.fn H (ds ++ gs)).vars pv)
    (hps : before = pa ++ pv) (hk : Kept W W')
    (hok : ∀ (j : Nat) (t : TypeId) (r : Value), f.resultTypes[j]? = some t → (v.resultList f.resultTypes.size)[j]? = some r → Value.okWide P W' .any 0 t r) :
    s.post enc P f apart fresh handsOn again W args v W' := by
  have hold : ∀ p ∈ before, (fun b => decide (b < W.heap.size)) p.block = true := fun p hp => by simpa using hW.lt p hp
  refine ⟨ds, gs, before, [], pa, pv, hW, hres _ _ _, hargs _ hold, hvars _ hold, World.keptBut_mono (fun p hp => ⟨hp, ?_⟩) (hk.but (· ∈ before)), fun _ => ?_⟩
  · rw [hps, List.mem_append] at hp
    exact Or.inr hp
  · have hlt := hW.lt
    obtain ⟨_, _, _, _, _, hz, hn⟩ := hW
    refine ⟨hok, _, _, ([] ++ pa) ++ pv, ⟨[] ++ pa, pv, Go.ChangeShapes.trodAll_append (hargs _ (fun _ _ => rfl)) (hres _ _ _), hvars _ (fun _ _ => rfl), rfl, ?_, ?_⟩, ?_⟩
    · intro b off hp
      have hp' : MemPlace.cell b off ∈ before := by rw [hps]; simpa using hp
      have hb := hlt _ hp'
      have := hz b off hp'
      unfold World.frozen? at this ⊢
      rw [show W'.heap[({ block := b, off := off } : Addr).block]? = W.heap[({ block := b, off := off } : Addr).block]? from hk.heap b hb]
      exact this
    · intro ha
      have := hn ha
      rw [hps] at this
      simpa using this
    · intro p hp _
      rw [hps]
      simpa using hp
end Go.Ev
