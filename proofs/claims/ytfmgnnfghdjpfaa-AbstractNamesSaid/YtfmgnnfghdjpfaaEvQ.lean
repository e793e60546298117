import Derived.Test.YtfmgnnfghdjpfaaEvP
namespace Go.Ev
variable {P : Program} {σ : Env} {S : St} {w : World}

def FoundR (P : Program) (σ : Env) : Option (Nat × AV) → Option (Nat × Value) → Prop
  | none, none => True
  | some (j, v), some (j', V) => j = j' ∧ Rv P σ v V
  | _, _ => False

theorem findNow_sound {d : TypeDesc} {e : EqP} (hd : (d = .string ∧ e = .str) ∨ ((∃ k, d = .int k) ∧ e = .int)) {k : AV} {K : Value} (hk : Rv P σ k K) :
    ∀ {m : List (AV × AV)} {es : List MapEntry} {i : Nat} {r : Option (Nat × AV)}, MapR P σ m es → findK (.p e) k m i = some r → ∃ R, Instr.findNow d K es i = some R ∧ FoundR P σ r R
  | [], es, i, r, hm, h => by
    simp only [findK, Option.some.injEq] at h
    subst h
    have hm : es = [] := hm
    subst hm
    exact ⟨none, rfl, trivial⟩
  | (k', v) :: m, es, i, r, hm, h => by
    obtain ⟨x, es', rfl, h1, h2, h3⟩ := hm
    simp only [findK] at h
    obtain ⟨b, h4, h⟩ := osel_eq_some h
    have h4 : eqp e k k' = some b := h4
    have hs : Instr.sameNow d K x.key = some b := by
      rcases hd with ⟨rfl, rfl⟩ | ⟨⟨kk, rfl⟩, rfl⟩
      · cases k <;> simp only [eqp, reduceCtorEq] at h4
        cases k' <;> simp only [eqp, reduceCtorEq] at h4
        simp only [Rv] at hk h1
        obtain ⟨rfl, ha⟩ := hk
        obtain ⟨hx, hc⟩ := h1
        cases h4
        rw [hx]
        simp only [Instr.sameNow]
        rw [beq_toListBytes, str_beq ha hc]
      · cases k <;> simp only [eqp, reduceCtorEq] at h4
        cases k' <;> simp only [eqp, reduceCtorEq] at h4
        simp only [Rv] at hk h1
        subst hk
        obtain ⟨h5, h6⟩ := bsel_some h4
        have := keq_eq h5
        subst this
        cases h6
        rw [h1]
        simp [Instr.sameNow, ieq_eq]
    cases b
    · rw [bsel_false] at h
      obtain ⟨R, h5, h6⟩ := findNow_sound hd hk h3 h
      exact ⟨R, by simp only [Instr.findNow, hs]; exact h5, h6⟩
    · rw [bsel_true] at h
      cases h
      exact ⟨some (i, x.val), by simp only [Instr.findNow, hs], rfl, h2⟩

theorem keyT_cases {kt : TypeId} {e : EqT} (h : keyT P kt = some e) : (P.underlying kt = some .string ∧ e = .p .str) ∨ ((∃ k, P.underlying kt = some (.int k)) ∧ e = .p .int) ∨
    (e = eqT P kt ∧ ((∃ fs, P.underlying kt = some (.struct fs) ∧ fs.all (fun f => plainKey (eqP P f.type)) = true) ∨ (∃ n el, P.underlying kt = some (.array n el) ∧ plainKey (eqP P el) = true))) := by
  unfold keyT at h
  split at h
  · cases h; exact .inl ⟨‹_›, rfl⟩
  · cases h; exact .inr (.inl ⟨⟨_, ‹_›⟩, rfl⟩)
  · rename_i fs hu
    split at h
    · rename_i l hl
      rw [Bool.cond_eq_ite] at h
      split at h
      · rename_i hb; cases h; rw [Bool.and_eq_true] at hb; exact .inr (.inr ⟨hl.symm, .inl ⟨fs, hu, hb.1⟩⟩)
      · cases h
    · cases h
  · rename_i n el hu
    split at h
    · rename_i l hl
      rw [Bool.cond_eq_ite] at h
      split at h
      · rename_i hb; cases h; rw [Bool.and_eq_true] at hb; exact .inr (.inr ⟨hl.symm, .inr ⟨n, el, hu, hb.1⟩⟩)
      · cases h
    · cases h
  · cases h

theorem keyT_covers {kt : TypeId} {l : List (Nat × EqP)} (h : keyT P kt = some (.struct l)) : covers 0 l = true := by
  unfold keyT at h
  split at h
  · cases h
  · cases h
  · split at h
    · rw [Bool.cond_eq_ite] at h
      split at h
      · rename_i hb; cases h; rw [Bool.and_eq_true] at hb; exact hb.2
      · cases h
    · cases h
  · split at h
    · rw [Bool.cond_eq_ite] at h
      split at h
      · rename_i hb; cases h; rw [Bool.and_eq_true] at hb; exact hb.2
      · cases h
    · cases h
  · cases h

/-- keys that are plain data may be asked for -/
def KeySound (P : Program) : Prop := ∀ (σ : Env) (w : World) (kt : TypeId) (e : EqT) (k : AV) (K : Value) (empty : Bool), keyT P kt = some e → Rv P σ k K →
  (eqv e k k).isSome = true → (Instr.checkKey empty 10000 kt K).run P w = .ok () w

theorem findKey_sound (hE : EqSound P) {kt : TypeId} {e : EqT} (hkt : keyT P kt = some e) {k : AV} {K : Value} (hk : Rv P σ k K) {m : List (AV × AV)} {es : List MapEntry} {r : Option (Nat × AV)} (hm : MapR P σ m es)
    (h : findK e k m 0 = some r) : ∃ R, (Instr.findKey kt K es).run P w = .ok R w ∧ FoundR P σ r R := by
  rcases keyT_cases hkt with ⟨hu, rfl⟩ | ⟨⟨j, hu⟩, rfl⟩ | ⟨rfl, hu⟩
  · obtain ⟨R, h1, h2⟩ := findNow_sound (d := .string) (.inl ⟨rfl, rfl⟩) hk hm h
    exact ⟨R, by simp [Instr.findKey, run_underlying hu, h1], h2⟩
  · obtain ⟨R, h1, h2⟩ := findNow_sound (d := .int j) (.inr ⟨⟨j, rfl⟩, rfl⟩) hk hm h
    exact ⟨R, by simp [Instr.findKey, run_underlying hu, h1], h2⟩
  · obtain ⟨R, h1, h2⟩ := findAsking_sound (w := w) hE hk hm h
    have h2' : FoundR P σ r R := by
      cases r <;> cases R <;> first | exact h2 | trivial
    have hd : ∃ d, P.underlying kt = some d ∧ ∀ X Y, Instr.sameNow d X Y = none := by
      rcases hu with ⟨fs, hu, _⟩ | ⟨n, el, hu, _⟩
      · exact ⟨_, hu, fun X Y => rfl⟩
      · exact ⟨_, hu, fun X Y => rfl⟩
    obtain ⟨d, hd, hs⟩ := hd
    cases es with
    | nil =>
      refine ⟨none, by simp [Instr.findKey, run_underlying hd, Instr.findNow], ?_⟩
      simp [Instr.findAsking] at h1
      subst h1
      exact h2'
    | cons x es =>
      refine ⟨R, ?_, h2'⟩
      simp only [Instr.findKey, Sem.run_bind, run_underlying hd, Result.andThen_ok, Instr.findNow, hs]
      exact h1

theorem checkKey_plain {kt : TypeId} (h : P.underlying kt = some .string ∨ ∃ j, P.underlying kt = some (.int j)) (K : Value) (empty : Bool) : (Instr.checkKey empty 10000 kt K).run P w = .ok () w := by
  show (Instr.checkKey empty (9999 + 1) kt K).run P w = .ok () w
  generalize 9999 = n
  rcases h with h | ⟨j, h⟩ <;> simp [Instr.checkKey, run_underlying h]

theorem mapAt_some {m : AV} {M : Value} {es : List (AV × AV)} (hR : Rep P σ S w) (hm : Rv P σ m M) (h : mapAt S.h m = some es) :
    ∃ ms : Array MapEntry, MapR P σ es ms.toList ∧ ((M = .map none ∧ ms = #[]) ∨ ∃ r c, M = .map (some r) ∧ w.heap[r]? = some (.map ms c)) := by
  cases m <;> simp only [mapAt, reduceCtorEq] at h <;> simp only [Rv] at hm
  · obtain ⟨L, hL, rfl⟩ := hm
    obtain ⟨bl, h1, h2⟩ := osel_eq_some h
    cases bl <;> simp only [mapOfB, reduceCtorEq, Option.some.injEq] at h2
    subst h2
    obtain ⟨L', hL', _, ms, c, h3, h4⟩ := hR.blk _ _ h1
    rw [hL] at hL'; cases hL'
    exact ⟨ms, h4, .inr ⟨L.r, c, rfl, h3⟩⟩
  · cases h
    subst hm
    exact ⟨#[], rfl, .inl ⟨rfl, rfl⟩⟩

theorem withOk_sound {ok : Bool} {v : AV} {V : Value} {b : Bool} (h : Rv P σ v V) : Rv P σ (withOk ok v b) (if ok = true then .tuple #[V, .bool b] else V) := by
  unfold withOk
  cases ok
  · exact h
  · rw [bsel_true, if_pos rfl]
    simp only [Rv]
    exact ⟨_, rfl, Rvs_cons.2 ⟨_, _, rfl, h, Rvs_cons.2 ⟨_, _, rfl, by simp only [Rv], Rvs_nil.2 rfl⟩⟩⟩

theorem findKK_some {e : EqT} {k : AV} {es : List (AV × AV)} {r : Option (Nat × AV)} (h : findKK e k es = some r) : (eqv e k k).isSome = true ∧ findK e k es 0 = some r := by
  obtain ⟨b, h1, h2⟩ := osel_eq_some h
  exact ⟨by rw [h1]; rfl, h2⟩

theorem found_value {r : Option (Nat × AV)} {R : Option (Nat × Value)} {z v : AV} {ok : Bool} {Z : Value} (hzr : Rv P σ z Z) (hR : FoundR P σ r R) (h : lookupV r z ok = some v) :
    (R = none ∧ Rv P σ v (if ok = true then .tuple #[Z, .bool false] else Z)) ∨ ∃ j V, R = some (j, V) ∧ Rv P σ v (if ok = true then .tuple #[V, .bool true] else V) := by
  cases r with
  | none =>
    cases R with
    | none =>
      simp only [lookupV, Option.some.injEq] at h
      subst h
      exact .inl ⟨rfl, withOk_sound hzr⟩
    | some x => exact hR.elim
  | some x =>
    cases R with
    | none => exact hR.elim
    | some y =>
      simp only [lookupV, Option.some.injEq] at h
      subst h
      exact .inr ⟨y.1, y.2, rfl, withOk_sound hR.2⟩

theorem lookup_sound (hE : EqSound P) (hK : KeySound P) {t kt et : TypeId} {e : EqT} {z : AV} {ok : Bool} (ht : P.underlying t = some (.map kt et)) (hkt : keyT P kt = some e) (hz : zeroT P et = some z)
    {m k : AV} {M K : Value} (hR : Rep P σ S w) (hm : Rv P σ m M) (hk : Rv P σ k K) {v : AV} (h : (osel (mapAt S.h m) fun es => osel (findKK e k es) fun r => lookupV r z ok) = some v) :
    ∃ V, (Instr.lookup t M K ok).run P w = .ok V w ∧ Rv P σ v V := by
  obtain ⟨es, h1, h⟩ := osel_eq_some h
  obtain ⟨r, h2, h⟩ := osel_eq_some h
  obtain ⟨hself, h2⟩ := findKK_some h2
  obtain ⟨ms, h3, h4⟩ := mapAt_some hR hm h1
  obtain ⟨R, h5, h6⟩ := findKey_sound (w := w) hE hkt hk h3 h2
  obtain ⟨i, Z, hi, hZ, hzr⟩ := zeroT_some (σ := σ) hz
  have hck : ∀ empty, (Instr.checkKey empty 10000 kt K).run P w = .ok () w := fun empty => hK σ w kt e k K empty hkt hk hself
  have hz0 : (zeroValue et).run P w = .ok Z w := run_zero hi hZ
  rcases h4 with ⟨rfl, rfl⟩ | ⟨r', c, rfl, hc⟩
  · have h5 : (Instr.findKey kt K []).run P w = .ok R w := h5
    rcases found_value hzr h6 h with ⟨rfl, h8⟩ | ⟨j, V, rfl, h8⟩
    · refine ⟨_, ?_, h8⟩
      simp only [Instr.lookup, Sem.run_bind, run_underlying ht, Result.andThen_ok, Sem.run_pure, hck, h5, hz0]
    · refine ⟨_, ?_, h8⟩
      simp only [Instr.lookup, Sem.run_bind, run_underlying ht, Result.andThen_ok, Sem.run_pure, hck, h5]
  · have hg : (getObj r').run P w = .ok (.map ms c) w := by simp [getObj, Sem.run, hc]
    rcases found_value hzr h6 h with ⟨rfl, h8⟩ | ⟨j, V, rfl, h8⟩
    · refine ⟨_, ?_, h8⟩
      simp only [Instr.lookup, Sem.run_bind, run_underlying ht, Result.andThen_ok, hg, Sem.run_pure, hck, h5, hz0]
    · refine ⟨_, ?_, h8⟩
      simp only [Instr.lookup, Sem.run_bind, run_underlying ht, Result.andThen_ok, hg, Sem.run_pure, hck, h5]
end Go.Ev
