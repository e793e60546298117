import Derived.Test.YtfmgnnfghdjpfaaEvV
import Derived.OrdersIn
import Derived.RangeFuncLeaves
import Derived.LoopNIn
namespace Go.Ev
variable {P : Program} {σ : Env} {S : St} {w : World}

/-! ## maps that are written -/
theorem MapR.append : ∀ {m : List (AV × AV)} {es : List MapEntry} {k v : AV} {e : MapEntry}, MapR P σ m es → Rv P σ k e.key → Rv P σ v e.val → MapR P σ (m ++ [(k, v)]) (es ++ [e])
  | [], es, k, v, e, h, h1, h2 => by have h : es = [] := h; subst h; exact ⟨e, [], rfl, h1, h2, rfl⟩
  | (k', v') :: m, es, k, v, e, h, h1, h2 => by
    obtain ⟨x, es', rfl, h3, h4, h5⟩ := h
    exact ⟨x, es' ++ [e], rfl, h3, h4, MapR.append h5 h1 h2⟩
theorem MapR.modify : ∀ {m : List (AV × AV)} {es : List MapEntry} {k v : AV} {K V : Value} (i : Nat), MapR P σ m es → Rv P σ k K → Rv P σ v V →
    MapR P σ (modifyAt (fun _ => (k, v)) m i) (es.modify i fun e => { e with key := K, val := V })
  | [], es, k, v, K, V, i, h, _, _ => by have h : es = [] := h; subst h; simp [modifyAt]; rfl
  | (k', v') :: m, es, k, v, K, V, i, h, h1, h2 => by
    obtain ⟨x, es', rfl, h3, h4, h5⟩ := h
    simp only [modifyAt, bsel_eq]
    cases i with
    | zero => exact ⟨{ x with key := K, val := V }, es', by simp, h1, h2, h5⟩
    | succ i =>
      rw [if_neg (by simp)]
      exact ⟨x, es'.modify i (fun e => { e with key := K, val := V }), by simp, h3, h4, by simpa using MapR.modify i h5 h1 h2⟩

/-- a key that was found is, bit by bit, the one that was asked for -/
def BitsSound (P : Program) : Prop := ∀ (σ : Env) (kt : TypeId) (e : EqT) (k k' : AV) (K K' : Value), keyT P kt = some e → Rv P σ k K → Rv P σ k' K' → eqv e k k' = some true → Instr.sameBits 10000 K' K = true

theorem findK_at : ∀ {e : EqT} {k : AV} {m : List (AV × AV)} {i j : Nat} {v : AV}, findK e k m i = some (some (j, v)) → i ≤ j ∧ ∃ k', m[j - i]? = some (k', v) ∧ eqv e k k' = some true
  | e, k, [], i, j, v, h => by simp [findK] at h
  | e, k, (k', v') :: m, i, j, v, h => by
    simp only [findK] at h
    obtain ⟨b, h1, h⟩ := osel_eq_some h
    cases b
    · rw [bsel_false] at h
      obtain ⟨h2, k2, h3, h4⟩ := findK_at h
      refine ⟨by omega, k2, ?_, h4⟩
      rw [show j - i = (j - Nat.succ i) + 1 by omega]
      simpa using h3
    · rw [bsel_true] at h
      cases h
      exact ⟨Nat.le_refl _, k', by simp, h1⟩
theorem MapR.get : ∀ {m : List (AV × AV)} {es : List MapEntry} {i : Nat} {k v : AV}, MapR P σ m es → m[i]? = some (k, v) → ∃ e, es[i]? = some e ∧ Rv P σ k e.key ∧ Rv P σ v e.val
  | [], es, i, k, v, h, h1 => by simp at h1
  | (k', v') :: m, es, i, k, v, h, h1 => by
    obtain ⟨x, es', rfl, h3, h4, h5⟩ := h
    cases i with
    | zero => simp at h1; obtain ⟨rfl, rfl⟩ := h1; exact ⟨x, by simp, h3, h4⟩
    | succ i => simp at h1; obtain ⟨e, h6, h7⟩ := MapR.get h5 h1; exact ⟨e, by simpa using h6, h7⟩

theorem run_setObj {r : Nat} {ob old : Obj} (h : w.heap[r]? = some old) (hc : ∀ c e f, old ≠ .cells c e f) : (setObj r ob).run P w = .ok () { w with heap := w.heap.setIfInBounds r ob } := by
  simp only [setObj, Sem.run, h]
theorem run_getObj {r : Nat} {ob : Obj} (h : w.heap[r]? = some ob) (hc : ∀ c e f, ob ≠ .cells c e f) : (getObj r).run P w = .ok ob w := by
  simp only [getObj, Sem.run, h]

theorem mapUpd_sound (hA : Asked P) (hB : BitsSound P) {t kt et : TypeId} {e : EqT} (ht : P.underlying t = some (.map kt et)) (hkt : keyT P kt = some e) (hR : Rep P σ S w) {m k x : AV} {M K X : Value} (hm : Rv P σ m M) (hk : Rv P σ k K) (hx : Rv P σ x X)
    {v : AV} {S' : St} (h : mapUpdV m e k x S = some (v, S')) : v = .undef ∧ ∃ w', (Instr.mapUpdate t M K X).run P w = .ok () w' ∧ Ext P σ S w σ S' w' := by
  cases m <;> simp only [mapUpdV, reduceCtorEq] at h
  rename_i b
  obtain ⟨es, h1, h⟩ := osel_eq_some h
  obtain ⟨bl, hb, h1⟩ := osel_eq_some h1
  obtain ⟨r, h2, h⟩ := osel_eq_some h
  cases h
  refine ⟨rfl, ?_⟩
  obtain ⟨hself, hf⟩ := findKK_some h2
  cases bl <;> simp only [mapOfB, reduceCtorEq, Option.some.injEq] at h1
  rename_i es0
  have h1 := h1.symm
  subst h1
  obtain ⟨L, hL, hlt, ms, c, h3, h4⟩ := hR.blk b _ hb
  simp only [Rv] at hm
  obtain ⟨L', hL', rfl⟩ := hm
  rw [hL] at hL'; cases hL'
  obtain ⟨R, h5, h6⟩ := findKey_sound (w := w) hA.eq hkt hk h4 hf
  have hck := hA.key σ w kt e k K false hkt hk hself
  have hg := run_getObj (P := P) h3 (by simp)
  have key : ∀ ob, BlkRep P σ { w with heap := w.heap.setIfInBounds L.r ob } L (.map (mapPut r es k x)) →
      Ext P σ S w σ ⟨S.h.set b (some (.map (mapPut r es k x))), S.nx⟩ { w with heap := w.heap.setIfInBounds L.r ob } := fun ob hbl =>
    Ext.write hR hb trivial trivial hL (fun r hr => by simp [Array.getElem?_setIfInBounds_ne (Ne.symm hr)]) (by simp) rfl rfl rfl hbl
  have hat : ∀ ob, (w.heap.setIfInBounds L.r ob)[L.r]? = some ob := fun ob => by
    rw [Array.getElem?_setIfInBounds_self_of_lt hlt]
  cases r with
  | none =>
    cases R with
    | some _ => exact h6.elim
    | none =>
      refine ⟨_, ?_, key (.map (ms.push { key := K, val := X, born := c }) (c + 1)) ?_⟩
      · simp only [Instr.mapUpdate, Sem.run_bind, run_underlying ht, Result.andThen_ok, hg, hck, h5]
        rw [run_setObj h3 (by simp)]
      · refine ⟨_, _, hat _, ?_⟩
        simp only [mapPut, appL_eq, Array.toList_push]
        exact h4.append hk hx
  | some jv =>
    obtain ⟨j, v0⟩ := jv
    cases R with
    | none => exact h6.elim
    | some jV =>
      obtain ⟨j', V0⟩ := jV
      obtain ⟨rfl, _⟩ := h6
      obtain ⟨_, k', hk1, hk2⟩ := findK_at hf
      simp only [Nat.sub_zero] at hk1
      obtain ⟨en, he1, he2, _⟩ := h4.get hk1
      have hbits := hB σ kt e k k' K en.key hkt hk he2 hk2
      refine ⟨_, ?_, key (.map (ms.modify j fun e => { e with key := K, val := X }) c) ?_⟩
      · have hms : ms[j]? = some en := by rw [← Array.getElem?_toList]; exact he1
        simp only [Instr.mapUpdate, Sem.run_bind, run_underlying ht, Result.andThen_ok, hg, hck, h5, hms, Option.map_some, Option.getD_some, Instr.keyThatStays, hbits, if_true, Sem.run_pure]
        rw [run_setObj h3 (by simp)]
      · refine ⟨_, _, hat _, ?_⟩
        simp only [mapPut]
        rw [Array.toList_modify]
        exact h4.modify j hk hx

/-! ## One operation -/
/-- what is asked of an operation's outcome: the value and the world -/
def NextIn (P : Program) (R : Value → World → Prop) : Result Next → Prop
  | .ok (.value v) w' => R v w'
  | .ok .skip w' => R undef w'
  | .ok (.enter f args) w' => CallsIn Fence.wide 0 P f args w' fun
      | .returned v, w'' => R v w''
      | _, _ => False
  | .ok (.round l f tmps assign body) w' => RoundIn Fence.wide 0 P l f tmps assign body w' fun
      | .returned v, w'' => R v w''
      | _, _ => False
  | _ => False

/-- what is asked of calls -/
def CallSpec (P : Program) (call : CallF) : Prop := ∀ (f : AV) (args : List AV) (S : St) (v : AV) (S' : St), call f args S = some (v, S') → ∀ (σ : Env) (w : World) (fv : Value) (Args : List Value),
  Rv P σ f fv → Rvs P σ args Args → Rep P σ S w → NextIn P (fun V w' => ∃ σ', Rv P σ' v V ∧ Ext P σ S w σ' S' w') ((do let d ← Deferred.ofValue fv ⟨Args⟩; invoke d.target d.args : Sem Next).run P w)

theorem st_sound {t : TypeId} {agg : Bool} {n : Nat} (ht : aggT P t = some (agg, n)) (hR : Rep P σ S w) {x y : AV} {X Y : Value} (hx : Rv P σ x X) (hy : Rv P σ y Y) {cs : List AV} (hcs : y.cells = some cs) {v : AV} {S' : St}
    (h : xStV x n cs S = some (v, S')) : v = .undef ∧ ∃ w', (Instr.storeAt t X Y).run P w = .ok () w' ∧ Ext P σ S w σ S' w' := by
  obtain ⟨d, i, hu, hi, hn, hd⟩ := aggT_some ht
  cases x <;> simp only [xStV, reduceCtorEq] at h
  obtain ⟨hl, h⟩ := bsel_some h
  obtain ⟨S1, hst, h⟩ := osel_eq_some h
  cases h
  refine ⟨rfl, ?_⟩
  simp only [Rv] at hx
  obtain ⟨L, hL, rfl⟩ := hx
  obtain ⟨hc1, hc2⟩ := Rv_cells hy hcs
  obtain ⟨L', hL', hth, hext⟩ := store_sound hR hc1 hc2 hst
  rw [hL] at hL'; cases hL'
  rw [lenL_eq, Nat.beq_eq] at hl
  refine ⟨_, ?_, hext⟩
  have hsz : Y.cells.size = i.size := by have := hc1.length; simp at this; omega
  have hrun := run_storeCells_cells (P := P) L.r (L.d + _) Y.cells.toList 0 w (fun j hj => by simpa using (hth j hj).1) (fun j hj => by simpa using (hth j hj).2) hc2
  simp only [Nat.add_zero] at hrun
  simp [Instr.storeAt, Instr.sureAddr, storeVar, sizeOf, typeInfo, hi, hsz, hrun]

/-- AN OPERATION THAT ACTS. -/
theorem evX_sound (hA : Asked P) (hB : BitsSound P) {call : CallF} (hcall : CallSpec P call) {o : Oper} {xo : XOp} (hc : cOp P o.op = some (.x xo)) {F : Fr} {a : Act} (hF : FrR P σ F a.tmps) (hR : Rep P σ S w) {v : AV} {S' : St}
    (hv : evX xo call F S = some (v, S')) : NextIn P (fun V w' => ∃ σ', Rv P σ' v V ∧ Ext P σ S w σ' S' w') ((execOp a.eval o).run P w) := by
  obtain ⟨dst, op, type, pos, after, guard⟩ := o
  simp only at hc
  have hundef : ∀ σ', Rv P σ' .undef undef := fun σ' => by simp only [AV.undef, undef, Rv]; exact ⟨[], rfl, Rvs_nil.2 rfl⟩
  cases op <;> (try (first | (obtain ⟨y, _, h2⟩ := q_some hc; cases h2; done) | (obtain ⟨y, _, h2⟩ := al_some hc; cases h2; done) | (cases hc; done)))
  case store t x y =>
    obtain ⟨z, h1, h2⟩ := xx_some hc; cases h2
    obtain ⟨⟨agg, n⟩, hag, h1⟩ := bind_some' h1
    obtain ⟨X, hX, h1⟩ := bind_some' h1
    obtain ⟨Y, hY, h1⟩ := bind_some' h1; cases h1
    obtain ⟨cs, h3, h4⟩ := osel_eq_some (show (osel (Y.val F).cells fun cs => xStV (X.val F) n cs S) = some (v, S') from hv)
    obtain ⟨rfl, w', h5, h6⟩ := st_sound hag hR (opd_sound hF hR hX) (opd_sound hF hR hY) h3 h4
    simp only [execOp, Sem.run_bind, h5, Result.andThen_ok, Sem.run_pure]
    exact ⟨σ, hundef σ, h6⟩
  case insert t m k x =>
    simp only [cOp] at hc
    split at hc
    · rename_i kt et hu
      obtain ⟨y, h1, h2⟩ := xx_some hc; cases h2
      obtain ⟨e, he, h1⟩ := bind_some' h1
      obtain ⟨M, hM, h1⟩ := bind_some' h1
      obtain ⟨K, hK, h1⟩ := bind_some' h1
      obtain ⟨X, hX, h1⟩ := bind_some' h1; cases h1
      obtain ⟨rfl, w', h5, h6⟩ := mapUpd_sound hA hB hu he hR (opd_sound hF hR hM) (opd_sound hF hR hK) (opd_sound hF hR hX) hv
      simp only [execOp, Sem.run_bind, h5, Result.andThen_ok, Sem.run_pure]
      exact ⟨σ, hundef σ, h6⟩
    · cases hc
  case mapUpdate t m k x =>
    simp only [cOp] at hc
    split at hc
    · rename_i kt et hu
      obtain ⟨y, h1, h2⟩ := xx_some hc; cases h2
      obtain ⟨e, he, h1⟩ := bind_some' h1
      obtain ⟨M, hM, h1⟩ := bind_some' h1
      obtain ⟨K, hK, h1⟩ := bind_some' h1
      obtain ⟨X, hX, h1⟩ := bind_some' h1; cases h1
      obtain ⟨rfl, w', h5, h6⟩ := mapUpd_sound hA hB hu he hR (opd_sound hF hR hM) (opd_sound hF hR hK) (opd_sound hF hR hX) hv
      simp only [execOp, Sem.run_bind, h5, Result.andThen_ok, Sem.run_pure]
      exact ⟨σ, hundef σ, h6⟩
    · cases hc
  case call c =>
    obtain ⟨callee, args, argTypes⟩ := c
    cases callee with
    | value f =>
      simp only [cOp] at hc
      split at hc
      · cases hc
      · obtain ⟨y, h1, h2⟩ := xx_some hc; cases h2
        obtain ⟨Fo, hFo, h1⟩ := bind_some' h1
        obtain ⟨As, hAs, h1⟩ := bind_some' h1; cases h1
        have := hcall _ _ _ _ _ hv σ w _ _ (opd_sound hF hR hFo) (opds_sound hF hR hAs) hR
        have he : (args.map a.eval) = ⟨args.toList.map a.eval⟩ := by apply Array.ext'; simp
        simp only [execOp, resolve, he]
        exact this
    | invoke r m => cases hc
    | builtin b =>
      have arr : ∀ {α : Type} {x : Array α} {l : List α}, x.toList = l → x = l.toArray := fun h => by apply Array.ext'; rw [h]
      simp only [cOp] at hc
      split at hc
      · split at hc
        all_goals (first | (obtain ⟨y, _, h2⟩ := q_some hc; cases h2; done) | (cases hc; done))
      · split at hc
        all_goals (first | (obtain ⟨y, _, h2⟩ := q_some hc; cases h2; done) | (cases hc; done))
      · obtain ⟨y, _, h2⟩ := q_some hc; cases h2
      · obtain ⟨y, _, h2⟩ := q_some hc; cases h2
      · rename_i s x t u hx ht
        have := arr hx; subst this
        have := arr ht; subst this
        split at hc
        · rename_i e i he
          rw [Bool.cond_eq_ite] at hc
          split at hc
          · rename_i hcond
            rw [Bool.and_eq_true] at hcond
            obtain ⟨z, hz⟩ := Option.isSome_iff_exists.1 hcond.2
            obtain ⟨y, h1, h2⟩ := xx_some hc; cases h2
            obtain ⟨So, hS, h1⟩ := bind_some' h1
            obtain ⟨Xo, hX, h1⟩ := bind_some' h1; cases h1
            obtain ⟨V, w', σ', h3, h4, h5⟩ := append_sound (ty := type) he hcond.1 hz hR (opd_sound hF hR hS) (opd_sound hF hR hX) hv
            have hex : (execOp a.eval ⟨dst, .call ⟨.builtin .append, #[s, x], #[t, u]⟩, type, pos, after, guard⟩).run P w = .ok (.value V) w' := by
              simp [execOp, resolve, invoke, builtin, h3]
            have hex' : (execOp a.eval ⟨dst, .call ⟨.builtin .append, [s, x].toArray, [t, u].toArray⟩, type, pos, after, guard⟩).run P w = .ok (.value V) w' := hex
            rw [hex']
            exact ⟨σ', h4, h5⟩
          · cases hc
        · cases hc
      · cases hc
  case makeFunc fn x y =>
    cases fn <;> (try (first | (obtain ⟨y, _, h2⟩ := q_some hc; cases h2; done) | (cases hc; done)))
    simp only [cOp] at hc
    split at hc
    · obtain ⟨y, _, h2⟩ := q_some hc; cases h2
    · cases hc
  case makeMap t r =>
    cases r <;> simp only [cOp, reduceCtorEq] at hc
    obtain ⟨y, _, h2⟩ := al_some hc; cases h2
  all_goals
    simp only [cOp, Bool.cond_eq_ite] at hc
    (repeat' split at hc) <;> first
      | (obtain ⟨y, _, h2⟩ := q_some hc; cases h2; done)
      | (obtain ⟨y, _, h2⟩ := al_some hc; cases h2; done)
      | (cases hc; done)
end Go.Ev
