/- A verified evaluator of the model's code, part 4 of 7: maps, methods, the operations that are quiet. -/
import Derived.Test.YtiiplmagnlcpbaaGreatDoorEv3
namespace Go.Ev
variable {P : Program} {σ : Env} {S : St} {w : World}

theorem addr_add (r o n : Nat) : (⟨r, o, none⟩ : Addr).add n = ⟨r, o + n, none⟩ := Addr.add_mid r o n

theorem slSl_sound {t e : TypeId} {i : TypeInfo} (ht : P.underlying t = some (.slice e)) (hi : P.info? e = some i) {F : Fr} {a : Act} (hF : FrR P σ F a.tmps) (hR : Rep P σ S w)
    {b off len cap : Nat} {o : Bool} {lo hh mx : Option Operand} {Lo Hi Mx : Option Opd} (hlo : cOpt P lo = some Lo) (hhi : cOpt P hh = some Hi) (hmx : cOpt P mx = some Mx)
    (hhm : mx.isSome = true → hh.isSome = true) {X : Value} (hx : Rv P σ (.sl b off len cap o) X) {v : AV} (h : slSl i.size b off len cap o Lo Hi Mx F = some v) :
    ∃ V, (Instr.slice t X (lo.map a.eval) (hh.map a.eval) (mx.map a.eval)).run P w = .ok V w ∧ Rv P σ v V := by
  simp only [Rv] at hx
  obtain ⟨L, hL, rfl⟩ := hx
  obtain ⟨x, hb, h⟩ := osel_eq_some h
  have hnone := cOpt_isSome hmx
  have h6 := (bounds_some hb).2.2.2
  cases o with
  | false =>
    have hrun := bounds_sound (e := 0) (isSlice := true) hF hR hlo hhi hmx hhm hb
    simp only [Nat.add_zero, ite_self, bsel_false] at hrun h
    simp only [if_false, Bool.false_eq_true]
    rw [bsel_eq] at h
    split at h
    · rename_i he
      rw [Nat.beq_eq] at he
      cases h
      refine ⟨_, by simp [Instr.slice, run_underlying ht, hrun, sizeOf, typeInfo, hi, he]; rfl, ?_⟩
      simp only [Rv]
      exact ⟨L, hL, by simp [he]⟩
    · rename_i he
      rw [Nat.beq_eq] at he
      cases h
      refine ⟨.slice (some ⟨L.r, L.d + off + x.1 * i.size, none⟩) (x.2.1 - x.1) (x.2.2 - x.1), by simp [Instr.slice, run_underlying ht, hrun, sizeOf, typeInfo, hi, he, addr_add], ?_⟩
      simp only [Rv]
      exact ⟨L, hL, by simp [Nat.add_assoc]⟩
  | true =>
    have hrun := bounds_sound (e := L.e) (isSlice := true) hF hR hlo hhi hmx hhm hb
    simp only [bsel_true, hnone] at h
    simp only [if_true]
    cases hm : mx.isNone
    · rw [hm] at h hrun
      simp only [if_false, Bool.false_eq_true, bsel_false] at hrun h
      rw [bsel_eq] at h
      split at h
      · rename_i he
        rw [Nat.beq_eq] at he
        cases h
        refine ⟨_, by simp [Instr.slice, run_underlying ht, hrun, sizeOf, typeInfo, hi, he]; rfl, ?_⟩
        simp only [Rv]
        exact ⟨L, hL, by simp [he]⟩
      · rename_i he
        rw [Nat.beq_eq] at he
        cases h
        refine ⟨.slice (some ⟨L.r, L.d + off + x.1 * i.size, none⟩) (x.2.1 - x.1) (x.2.2 - x.1), by simp [Instr.slice, run_underlying ht, hrun, sizeOf, typeInfo, hi, he, addr_add], ?_⟩
        simp only [Rv]
        exact ⟨L, hL, by simp [Nat.add_assoc]⟩
    · rw [hm] at h hrun
      simp only [if_true, bsel_true] at hrun h
      rw [bsel_eq] at h
      split at h
      · rename_i he
        rw [Nat.beq_eq] at he
        cases h
        have hlen : x.2.1 - x.1 = 0 := by omega
        simp only [Instr.slice, Sem.run_bind, run_underlying ht, Result.andThen_ok, hrun, sizeOf, typeInfo, run_program, hi, Sem.run_pure, hlen]
        by_cases h0 : x.2.2 + L.e = x.1
        · exact ⟨_, by rw [if_pos h0], by simp only [Rv]; exact ⟨_, _, rfl⟩⟩
        · exact ⟨_, by rw [if_neg h0], by simp only [Rv]; exact ⟨_, _, rfl⟩⟩
      · rename_i he
        rw [Nat.beq_eq] at he
        cases h
        have h0 : ¬ (x.2.2 + L.e = x.1) := by omega
        refine ⟨.slice (some ⟨L.r, L.d + off + x.1 * i.size, none⟩) (x.2.1 - x.1) (x.2.2 + L.e - x.1), by simp [Instr.slice, run_underlying ht, hrun, sizeOf, typeInfo, hi, h0, addr_add], ?_⟩
        simp only [Rv]
        refine ⟨L, hL, ?_⟩
        simp only [if_true, Nat.add_assoc]
        congr 1
        omega

theorem slEmp_sound {t e : TypeId} {i : TypeInfo} (ht : P.underlying t = some (.slice e)) (hi : P.info? e = some i) {F : Fr} {a : Act} (hF : FrR P σ F a.tmps) (hR : Rep P σ S w)
    {lo hh mx : Option Operand} {Lo Hi Mx : Option Opd} (hlo : cOpt P lo = some Lo) (hhi : cOpt P hh = some Hi) (hmx : cOpt P mx = some Mx)
    (hhm : mx.isSome = true → hh.isSome = true) {X : Value} (hx : Rv P σ .emp X) {v : AV} (h : slEmp Lo Hi Mx F = some v) :
    ∃ V, (Instr.slice t X (lo.map a.eval) (hh.map a.eval) (mx.map a.eval)).run P w = .ok V w ∧ Rv P σ v V := by
  simp only [Rv] at hx
  obtain ⟨A, c, rfl⟩ := hx
  obtain ⟨x, hb, h⟩ := osel_eq_some h
  cases h
  have h6 := (bounds_some hb).2.2.2
  have hrun := bounds_sound (e := c) (isSlice := true) hF hR hlo hhi hmx hhm hb
  simp only [Nat.zero_add] at hrun
  have h1 : x.1 = 0 := by omega
  have h2 : x.2.1 = 0 := by omega
  simp only [Instr.slice, Sem.run_bind, run_underlying ht, Result.andThen_ok, hrun, sizeOf, typeInfo, run_program, hi, Sem.run_pure, h1, h2, Nat.zero_mul, Nat.sub_self]
  refine ⟨_, rfl, ?_⟩
  simp only [Rv, Option.map_some, Addr.add_zero', ite_self]
  exact ⟨A, _, rfl⟩

theorem slNil_sound {t e : TypeId} {i : TypeInfo} (ht : P.underlying t = some (.slice e)) (hi : P.info? e = some i) {F : Fr} {a : Act} (hF : FrR P σ F a.tmps) (hR : Rep P σ S w)
    {lo hh mx : Option Operand} {Lo Hi Mx : Option Opd} (hlo : cOpt P lo = some Lo) (hhi : cOpt P hh = some Hi) (hmx : cOpt P mx = some Mx)
    (hhm : mx.isSome = true → hh.isSome = true) {X : Value} (hx : Rv P σ .nilsl X) {v : AV} (h : slNil Lo Hi Mx F = some v) :
    ∃ V, (Instr.slice t X (lo.map a.eval) (hh.map a.eval) (mx.map a.eval)).run P w = .ok V w ∧ Rv P σ v V := by
  simp only [Rv] at hx
  subst hx
  obtain ⟨x, hb, h⟩ := osel_eq_some h
  cases h
  have h6 := (bounds_some hb).2.2.2
  have hrun := bounds_sound (e := 0) (isSlice := true) hF hR hlo hhi hmx hhm hb
  simp only [Nat.add_zero, ite_self] at hrun
  have h1 : x.1 = 0 := by omega
  have h2 : x.2.1 = 0 := by omega
  have h3 : x.2.2 = 0 := by omega
  simp only [Instr.slice, Sem.run_bind, run_underlying ht, Result.andThen_ok, hrun, sizeOf, typeInfo, run_program, hi, Sem.run_pure, h1, h2, h3, if_true, Nat.sub_self]
  exact ⟨_, rfl, by simp only [Rv]⟩

theorem slArr_sound {t e : TypeId} {n : Nat} {i : TypeInfo} (ht : P.underlying t = some (.array n e)) (hi : P.info? e = some i) {F : Fr} {a : Act} (hF : FrR P σ F a.tmps) (hR : Rep P σ S w)
    {b off : Nat} {lo hh mx : Option Operand} {Lo Hi Mx : Option Opd} (hlo : cOpt P lo = some Lo) (hhi : cOpt P hh = some Hi) (hmx : cOpt P mx = some Mx)
    (hhm : mx.isSome = true → hh.isSome = true) {X : Value} (hx : Rv P σ (.ptr b off) X) {v : AV} (h : slArr n i.size b off Lo Hi Mx F = some v) :
    ∃ V, (Instr.sliceAt t X (lo.map a.eval) (hh.map a.eval) (mx.map a.eval)).run P w = .ok V w ∧ Rv P σ v V := by
  simp only [Rv] at hx
  obtain ⟨L, hL, rfl⟩ := hx
  obtain ⟨x, hb, h⟩ := osel_eq_some h
  have hrun := bounds_sound (e := 0) (isSlice := false) hF hR hlo hhi hmx hhm hb
  simp only [Nat.add_zero, ite_self] at hrun
  rw [bsel_eq] at h
  split at h
  · rename_i he
    rw [Nat.beq_eq] at he
    cases h
    refine ⟨_, by simp [Instr.sliceAt, run_underlying ht, Instr.sureAddr, hrun, sizeOf, typeInfo, hi, he]; rfl, ?_⟩
    simp only [Rv]
    exact ⟨L, hL, by simp [he]⟩
  · rename_i he
    rw [Nat.beq_eq] at he
    cases h
    refine ⟨.slice (some ⟨L.r, L.d + off + x.1 * i.size, none⟩) (x.2.1 - x.1) (x.2.2 - x.1), by simp [Instr.sliceAt, run_underlying ht, Instr.sureAddr, hrun, sizeOf, typeInfo, hi, he, addr_add], ?_⟩
    simp only [Rv]
    exact ⟨L, hL, by simp [Nat.add_assoc]⟩

theorem mkStr_extract (s : List Nat) (l h : Nat) : (mkStr s).extract l h = mkStr ((s.drop l).take (h - l)) := by
  apply ByteArray.ext
  rw [ByteArray.data_extract]
  simp [mkStr, List.extract_eq_take_drop]

theorem slStr_sound {t : TypeId} (ht : P.underlying t = some .string) {F : Fr} {a : Act} (hF : FrR P σ F a.tmps) (hR : Rep P σ S w)
    {s : List Nat} {lo hh mx : Option Operand} {Lo Hi Mx : Option Opd} (hlo : cOpt P lo = some Lo) (hhi : cOpt P hh = some Hi) (hmx : cOpt P mx = some Mx)
    {X : Value} (hx : Rv P σ (.str s) X) {v : AV} (h : slStr s Lo Hi Mx F = some v) :
    ∃ V, (Instr.slice t X (lo.map a.eval) (hh.map a.eval) (mx.map a.eval)).run P w = .ok V w ∧ Rv P σ v V := by
  simp only [Rv] at hx
  obtain ⟨rfl, hb⟩ := hx
  cases Mx with
  | some _ => simp [slStr] at h
  | none =>
    have hmn : mx = none := by cases mx with | none => rfl | some m => have := cOpt_isSome hmx; simp at this
    subst hmn
    simp only [slStr] at h
    obtain ⟨h', h1, h⟩ := osel_eq_some h
    obtain ⟨l, h2, h⟩ := osel_eq_some h
    obtain ⟨h3, h⟩ := bsel_some h
    obtain ⟨h4, h⟩ := bsel_some h
    obtain ⟨r, h5, h⟩ := osel_eq_some h
    cases h
    rw [lenL_eq] at h1 h3
    have hbd : bounds s.length s.length Lo Hi none F = some (l, h', s.length) := by
      unfold bounds
      rw [show optNat F s.length none = some s.length from rfl, osel_some, h1, osel_some, h2, osel_some, h3, h4, Nat.ble_self_eq_true]
      rfl
    have hrun := bounds_sound (e := 0) (isSlice := false) hF hR hlo hhi hmx (by simp) hbd
    simp only [Nat.add_zero, ite_self] at hrun
    obtain ⟨rfl, _⟩ := cut_some h5
    refine ⟨.string (mkStr ((s.drop l).take (h' - l))), ?_, by simp only [Rv]; exact ⟨trivial, fun x hx => hb x (List.mem_of_mem_drop (List.mem_of_mem_take hx))⟩⟩
    simp only [Instr.slice, Sem.run_bind, run_underlying ht, Result.andThen_ok, Option.map_none, Option.isSome_none, Bool.false_eq_true, if_false, mkStr_size, Sem.run_pure]
    have hrun' : (Instr.sliceBounds false s.length s.length (lo.map a.eval) (hh.map a.eval) none).run P w = .ok (l, h', s.length) w := hrun
    simp [hrun', mkStr_extract]

/-! ## maps -/
theorem findAsking_sound (hE : EqSound P) {kt : TypeId} {k : AV} {K : Value} (hk : Rv P σ k K) : ∀ {m : List (AV × AV)} {es : List MapEntry} {i : Nat} {r : Option (Nat × AV)}, MapR P σ m es → findK (eqT P kt) k m i = some r →
    ∃ R, (Instr.findAsking kt K es i).run P w = .ok R w ∧ (match r, R with
      | none, none => True
      | some (j, v), some (j', V) => j = j' ∧ Rv P σ v V
      | _, _ => False)
  | [], es, i, r, hm, h => by
    simp only [findK, Option.some.injEq] at h
    subst h
    have hm : es = [] := hm
    subst hm
    exact ⟨none, rfl, trivial⟩
  | (k', v) :: m, es, i, r, hm, h => by
    obtain ⟨e, es', rfl, h1, h2, h3⟩ := hm
    simp only [findK] at h
    obtain ⟨b, h4, h⟩ := osel_eq_some h
    have heq : (Op.equal kt K e.key).run P w = .ok b w := (eqv_sound (w := w) hE hk h1 h4).2 9998
    cases b
    · rw [bsel_false] at h
      obtain ⟨R, h5, h6⟩ := findAsking_sound hE hk h3 h
      exact ⟨R, by simp only [Instr.findAsking, Sem.run_bind, heq, Result.andThen_ok]; exact h5, h6⟩
    · rw [bsel_true] at h
      cases h
      exact ⟨some (i, e.val), by simp [Instr.findAsking, heq], rfl, h2⟩

end Go.Ev

namespace Go.Ev
variable {P : Program} {σ : Env} {S : St} {w : World}

def FoundR (P : Program) (σ : Env) : Option (Nat × AV) → Option (Nat × Value) → Prop
  | none, none => True
  | some (j, v), some (j', V) => j = j' ∧ Rv P σ v V
  | _, _ => False

theorem findNow_sound {d : TypeDesc} {e : EqP} (hd : (d = .string ∧ e = .str) ∨ ((∃ k, d = .int k) ∧ e = .int)) {k : AV} {K : Value} (hk : Rv P σ k K) :
    ∀ {m : List (AV × AV)} {es : List MapEntry} {i : Nat} {r : Option (Nat × AV)}, MapR P σ m es → findK (.p e) k m i = some r → ∃ R, Instr.findNow d K es i = some R ∧ FoundR P σ r R
  | [], es, i, r, hm, h => by
    simp only [findK, Option.some.injEq] at h
    subst h
    have hm : es = [] := hm
    subst hm
    exact ⟨none, rfl, trivial⟩
  | (k', v) :: m, es, i, r, hm, h => by
    obtain ⟨x, es', rfl, h1, h2, h3⟩ := hm
    simp only [findK] at h
    obtain ⟨b, h4, h⟩ := osel_eq_some h
    have h4 : eqp e k k' = some b := h4
    have hs : Instr.sameNow d K x.key = some b := by
      rcases hd with ⟨rfl, rfl⟩ | ⟨⟨kk, rfl⟩, rfl⟩
      · cases k <;> simp only [eqp, reduceCtorEq] at h4
        cases k' <;> simp only [reduceCtorEq] at h4
        simp only [Rv] at hk h1
        obtain ⟨rfl, ha⟩ := hk
        obtain ⟨hx, hc⟩ := h1
        cases h4
        rw [hx]
        simp only [Instr.sameNow]
        rw [beq_toListBytes, str_beq ha hc]
      · cases k <;> simp only [eqp, reduceCtorEq] at h4
        cases k' <;> simp only [reduceCtorEq] at h4
        simp only [Rv] at hk h1
        subst hk
        obtain ⟨h5, h6⟩ := bsel_some h4
        have := keq_eq h5
        subst this
        cases h6
        rw [h1]
        simp [Instr.sameNow, ieq_eq]
    cases b
    · rw [bsel_false] at h
      obtain ⟨R, h5, h6⟩ := findNow_sound hd hk h3 h
      exact ⟨R, by simp only [Instr.findNow, hs]; exact h5, h6⟩
    · rw [bsel_true] at h
      cases h
      exact ⟨some (i, x.val), by simp only [Instr.findNow, hs], rfl, h2⟩

theorem keyT_cases {kt : TypeId} {e : EqT} (h : keyT P kt = some e) : (P.underlying kt = some .string ∧ e = .p .str) ∨ ((∃ k, P.underlying kt = some (.int k)) ∧ e = .p .int) ∨
    (e = eqT P kt ∧ ((∃ fs, P.underlying kt = some (.struct fs) ∧ fs.all (fun f => plainKey (eqP P f.type)) = true) ∨ (∃ n el, P.underlying kt = some (.array n el) ∧ plainKey (eqP P el) = true))) := by
  unfold keyT at h
  split at h
  · cases h; exact .inl ⟨‹_›, rfl⟩
  · cases h; exact .inr (.inl ⟨⟨_, ‹_›⟩, rfl⟩)
  · rename_i fs hu
    split at h
    · rename_i l hl
      rw [Bool.cond_eq_ite] at h
      split at h
      · rename_i hb; cases h; rw [Bool.and_eq_true] at hb; exact .inr (.inr ⟨hl.symm, .inl ⟨fs, hu, hb.1⟩⟩)
      · cases h
    · cases h
  · rename_i n el hu
    split at h
    · rename_i l hl
      rw [Bool.cond_eq_ite] at h
      split at h
      · rename_i hb; cases h; rw [Bool.and_eq_true] at hb; exact .inr (.inr ⟨hl.symm, .inr ⟨n, el, hu, hb.1⟩⟩)
      · cases h
    · cases h
  · cases h

theorem keyT_covers {kt : TypeId} {l : List (Nat × EqP)} (h : keyT P kt = some (.struct l)) : covers 0 l = true := by
  unfold keyT at h
  split at h
  · cases h
  · cases h
  · split at h
    · rw [Bool.cond_eq_ite] at h
      split at h
      · rename_i hb; cases h; rw [Bool.and_eq_true] at hb; exact hb.2
      · cases h
    · cases h
  · split at h
    · rw [Bool.cond_eq_ite] at h
      split at h
      · rename_i hb; cases h; rw [Bool.and_eq_true] at hb; exact hb.2
      · cases h
    · cases h
  · cases h

/-- keys that are plain data may be asked for -/
def KeySound (P : Program) : Prop := ∀ (σ : Env) (w : World) (kt : TypeId) (e : EqT) (k : AV) (K : Value) (empty : Bool), keyT P kt = some e → Rv P σ k K →
  (eqv e k k).isSome = true → (Instr.checkKey empty 10000 kt K).run P w = .ok () w

theorem findKey_sound (hE : EqSound P) {kt : TypeId} {e : EqT} (hkt : keyT P kt = some e) {k : AV} {K : Value} (hk : Rv P σ k K) {m : List (AV × AV)} {es : List MapEntry} {r : Option (Nat × AV)} (hm : MapR P σ m es)
    (h : findK e k m 0 = some r) : ∃ R, (Instr.findKey kt K es).run P w = .ok R w ∧ FoundR P σ r R := by
  rcases keyT_cases hkt with ⟨hu, rfl⟩ | ⟨⟨j, hu⟩, rfl⟩ | ⟨rfl, hu⟩
  · obtain ⟨R, h1, h2⟩ := findNow_sound (d := .string) (.inl ⟨rfl, rfl⟩) hk hm h
    exact ⟨R, by simp [Instr.findKey, run_underlying hu, h1], h2⟩
  · obtain ⟨R, h1, h2⟩ := findNow_sound (d := .int j) (.inr ⟨⟨j, rfl⟩, rfl⟩) hk hm h
    exact ⟨R, by simp [Instr.findKey, run_underlying hu, h1], h2⟩
  · obtain ⟨R, h1, h2⟩ := findAsking_sound (w := w) hE hk hm h
    have h2' : FoundR P σ r R := by
      cases r <;> cases R <;> first | exact h2 | trivial
    have hd : ∃ d, P.underlying kt = some d ∧ ∀ X Y, Instr.sameNow d X Y = none := by
      rcases hu with ⟨fs, hu, _⟩ | ⟨n, el, hu, _⟩
      · exact ⟨_, hu, fun X Y => rfl⟩
      · exact ⟨_, hu, fun X Y => rfl⟩
    obtain ⟨d, hd, hs⟩ := hd
    cases es with
    | nil =>
      refine ⟨none, by simp [Instr.findKey, run_underlying hd, Instr.findNow], ?_⟩
      simp [Instr.findAsking] at h1
      subst h1
      exact h2'
    | cons x es =>
      refine ⟨R, ?_, h2'⟩
      simp only [Instr.findKey, Sem.run_bind, run_underlying hd, Result.andThen_ok, Instr.findNow, hs]
      exact h1

theorem checkKey_plain {kt : TypeId} (h : P.underlying kt = some .string ∨ ∃ j, P.underlying kt = some (.int j)) (K : Value) (empty : Bool) : (Instr.checkKey empty 10000 kt K).run P w = .ok () w := by
  show (Instr.checkKey empty (9999 + 1) kt K).run P w = .ok () w
  generalize 9999 = n
  rcases h with h | ⟨j, h⟩ <;> simp [Instr.checkKey, run_underlying h]

theorem mapAt_some {m : AV} {M : Value} {es : List (AV × AV)} (hR : Rep P σ S w) (hm : Rv P σ m M) (h : mapAt S.h m = some es) :
    ∃ ms : Array MapEntry, MapR P σ es ms.toList ∧ ((M = .map none ∧ ms = #[]) ∨ ∃ r c, M = .map (some r) ∧ w.heap[r]? = some (.map ms c)) := by
  cases m <;> simp only [mapAt, reduceCtorEq] at h <;> simp only [Rv] at hm
  · obtain ⟨L, hL, rfl⟩ := hm
    obtain ⟨bl, h1, h2⟩ := osel_eq_some h
    cases bl <;> simp only [mapOfB, reduceCtorEq, Option.some.injEq] at h2
    subst h2
    obtain ⟨L', hL', _, ms, c, h3, h4⟩ := hR.blk _ _ h1
    rw [hL] at hL'; cases hL'
    exact ⟨ms, h4, .inr ⟨L.r, c, rfl, h3⟩⟩
  · cases h
    subst hm
    exact ⟨#[], rfl, .inl ⟨rfl, rfl⟩⟩

theorem withOk_sound {ok : Bool} {v : AV} {V : Value} {b : Bool} (h : Rv P σ v V) : Rv P σ (withOk ok v b) (if ok = true then .tuple #[V, .bool b] else V) := by
  unfold withOk
  cases ok
  · exact h
  · rw [bsel_true, if_pos rfl]
    simp only [Rv]
    exact ⟨_, rfl, Rvs_cons.2 ⟨_, _, rfl, h, Rvs_cons.2 ⟨_, _, rfl, by simp only [Rv], Rvs_nil.2 rfl⟩⟩⟩

theorem findKK_some {e : EqT} {k : AV} {es : List (AV × AV)} {r : Option (Nat × AV)} (h : findKK e k es = some r) : (eqv e k k).isSome = true ∧ findK e k es 0 = some r := by
  obtain ⟨b, h1, h2⟩ := osel_eq_some h
  exact ⟨by rw [h1]; rfl, h2⟩

theorem found_value {r : Option (Nat × AV)} {R : Option (Nat × Value)} {z v : AV} {ok : Bool} {Z : Value} (hzr : Rv P σ z Z) (hR : FoundR P σ r R) (h : lookupV r z ok = some v) :
    (R = none ∧ Rv P σ v (if ok = true then .tuple #[Z, .bool false] else Z)) ∨ ∃ j V, R = some (j, V) ∧ Rv P σ v (if ok = true then .tuple #[V, .bool true] else V) := by
  cases r with
  | none =>
    cases R with
    | none =>
      simp only [lookupV, Option.some.injEq] at h
      subst h
      exact .inl ⟨rfl, withOk_sound hzr⟩
    | some x => exact hR.elim
  | some x =>
    cases R with
    | none => exact hR.elim
    | some y =>
      simp only [lookupV, Option.some.injEq] at h
      subst h
      exact .inr ⟨y.1, y.2, rfl, withOk_sound hR.2⟩

theorem lookup_sound (hE : EqSound P) (hK : KeySound P) {t kt et : TypeId} {e : EqT} {z : AV} {ok : Bool} (ht : P.underlying t = some (.map kt et)) (hkt : keyT P kt = some e) (hz : zeroT P et = some z)
    {m k : AV} {M K : Value} (hR : Rep P σ S w) (hm : Rv P σ m M) (hk : Rv P σ k K) {v : AV} (h : (osel (mapAt S.h m) fun es => osel (findKK e k es) fun r => lookupV r z ok) = some v) :
    ∃ V, (Instr.lookup t M K ok).run P w = .ok V w ∧ Rv P σ v V := by
  obtain ⟨es, h1, h⟩ := osel_eq_some h
  obtain ⟨r, h2, h⟩ := osel_eq_some h
  obtain ⟨hself, h2⟩ := findKK_some h2
  obtain ⟨ms, h3, h4⟩ := mapAt_some hR hm h1
  obtain ⟨R, h5, h6⟩ := findKey_sound (w := w) hE hkt hk h3 h2
  obtain ⟨i, Z, hi, hZ, hzr⟩ := zeroT_some (σ := σ) hz
  have hck : ∀ empty, (Instr.checkKey empty 10000 kt K).run P w = .ok () w := fun empty => hK σ w kt e k K empty hkt hk hself
  have hz0 : (zeroValue et).run P w = .ok Z w := run_zero hi hZ
  rcases h4 with ⟨rfl, rfl⟩ | ⟨r', c, rfl, hc⟩
  · have h5 : (Instr.findKey kt K []).run P w = .ok R w := h5
    rcases found_value hzr h6 h with ⟨rfl, h8⟩ | ⟨j, V, rfl, h8⟩
    · refine ⟨_, ?_, h8⟩
      simp only [Instr.lookup, Sem.run_bind, run_underlying ht, Result.andThen_ok, Sem.run_pure, hck, h5, hz0]
    · refine ⟨_, ?_, h8⟩
      simp only [Instr.lookup, Sem.run_bind, run_underlying ht, Result.andThen_ok, Sem.run_pure, hck, h5]
  · have hg : (getObj r').run P w = .ok (.map ms c) w := by simp [getObj, Sem.run, hc]
    rcases found_value hzr h6 h with ⟨rfl, h8⟩ | ⟨j, V, rfl, h8⟩
    · refine ⟨_, ?_, h8⟩
      simp only [Instr.lookup, Sem.run_bind, run_underlying ht, Result.andThen_ok, hg, Sem.run_pure, hck, h5, hz0]
    · refine ⟨_, ?_, h8⟩
      simp only [Instr.lookup, Sem.run_bind, run_underlying ht, Result.andThen_ok, hg, Sem.run_pure, hck, h5]
end Go.Ev

namespace Go.Ev
variable {P : Program} {σ : Env} {S : St} {w : World}

/-- a bound method whose receiver is at hand -/
def MthSound (P : Program) : Prop := ∀ (σ : Env) (w : World) (n : String) (tbl : List (Nat × Nat × Option (Bool × Nat))) (v v' : AV) (t : TypeId) (V : Value), tbl = methodTable P n P.types.toList 0 → Rv P σ v (.iface t V) →
  mthOk n tbl v = some v' → (nilAhead (P.types.size + Made.depth) t V n).run P w = .ok (some false) w

structure Asked (P : Program) : Prop where
  eq : EqSound P
  key : KeySound P
  mth : MthSound P

theorem nilchk_sound (hA : Asked P) {x v : AV} {X : Value} {o : Oper} {a : Act} {xo : Operand} (ho : o.op = .nilCheck xo) (he : a.eval xo = X) (hx : Rv P σ x X) (h : nilchkV x = some v) :
    ∃ V, (execOp a.eval o).run P w = .ok (.value V) w ∧ Rv P σ v V := by
  cases x <;> simp only [nilchkV, reduceCtorEq, Option.some.injEq] at h
  case ptr =>
    subst h
    have hx' := hx
    simp only [Rv] at hx'
    obtain ⟨L, hL, rfl⟩ := hx'
    exact ⟨_, by simp only [execOp, ho, he]; rfl, hx⟩
  case fn =>
    subst h
    have hx' := hx
    simp only [Rv] at hx'
    obtain ⟨A, B, rfl, _⟩ := hx'
    exact ⟨_, by simp only [execOp, ho, he]; rfl, hx⟩
  case yld =>
    subst h
    have hx' := hx
    simp only [Rv] at hx'
    obtain ⟨L, hL, rfl⟩ := hx'
    exact ⟨_, by simp only [execOp, ho, he]; rfl, hx⟩
  case iface =>
    subst h
    have hx' := hx
    simp only [Rv] at hx'
    obtain ⟨W, rfl, _⟩ := hx'
    exact ⟨_, by simp only [execOp, ho, he]; rfl, hx⟩
  case mth n tbl u =>
    have hx' := hx
    simp only [Rv] at hx'
    obtain ⟨W, rfl, htbl, hu⟩ := hx'
    have hv : v = .mth n tbl u := by
      unfold mthOk at h
      split at h
      · obtain ⟨r, _, h⟩ := osel_eq_some h
        split at h
        · cases h; rfl
        · cases h; rfl
        · cases h
      · cases h
    have hW : ∃ t V, W = .iface t V := by
      unfold mthOk at h
      split at h
      · simp only [Rv] at hu; obtain ⟨V, rfl, _⟩ := hu; exact ⟨_, V, rfl⟩
      · cases h
    obtain ⟨t, V, rfl⟩ := hW
    have hn := hA.mth σ w n tbl u v t V htbl hu h
    refine ⟨.func (.method n) #[.iface t V] #[], ?_, by rw [hv]; exact hx⟩
    simp only [execOp, ho, he]
    simp [hn]

theorem tassert_sound {x v z : AV} {X : Value} {xt t : TypeId} {ok : Bool} {d : TypeDesc} (ht : P.underlying t = some d) (hd : ∀ m, d ≠ .interface m) (hz : zeroT P t = some z) (hx : Rv P σ x X) (h : tassertV x t z ok = some v) :
    ∃ V, (Instr.typeAssert X xt t ok).run P w = .ok V w ∧ Rv P σ v V := by
  obtain ⟨i, Z, hi, hZ, hzr⟩ := zeroT_some (σ := σ) hz
  have hz0 : (zeroValue t).run P w = .ok Z w := run_zero hi hZ
  have hfail : ∀ v', (.tup [z, .bool false] : AV) = v' → Rv P σ v' (.tuple #[Z, .bool false]) := fun v' hv => by
    subst hv
    simp only [Rv]
    exact ⟨_, rfl, Rvs_cons.2 ⟨_, _, rfl, hzr, Rvs_cons.2 ⟨_, _, rfl, by simp only [Rv], Rvs_nil.2 rfl⟩⟩⟩
  cases x <;> simp only [tassertV, reduceCtorEq] at h <;> simp only [Rv] at hx
  · obtain ⟨W, rfl, hW⟩ := hx
    rename_i t' u
    rw [bsel_eq] at h
    split at h
    · rename_i he
      rw [Nat.beq_eq] at he
      subst he
      cases h
      refine ⟨if ok = true then .tuple #[W, .bool true] else W, ?_, withOk_sound hW⟩
      cases d <;> first | (exact absurd rfl (hd _)) | simp [Instr.typeAssert, run_underlying ht]
    · rename_i he
      rw [Nat.beq_eq] at he
      obtain ⟨h1, h2⟩ := bsel_some h
      subst h1
      cases h2
      refine ⟨.tuple #[Z, .bool false], ?_, hfail _ rfl⟩
      have hne : ¬ (t' = t) := fun e => he e.symm
      cases d <;> first | (exact absurd rfl (hd _)) | simp [Instr.typeAssert, run_underlying ht, hne, hz0]
  · subst hx
    obtain ⟨h1, h2⟩ := bsel_some h
    subst h1
    cases h2
    refine ⟨.tuple #[Z, .bool false], ?_, hfail _ rfl⟩
    cases d <;> first | (exact absurd rfl (hd _)) | simp [Instr.typeAssert, run_underlying ht, hz0]

theorem max_sound : ∀ {xs : List AV} {Xs : List Value} {x v : AV} {X : Value}, Rvs P σ xs Xs → Rv P σ x X → minmaxV true xs x = some v → ∃ V, (Xs.foldlM Builtin.max2 X).run P w = .ok V w ∧ Rv P σ v V
  | [], Xs, x, v, X, hxs, hx, h => by
    rw [Rvs_nil] at hxs
    subst hxs
    simp only [minmaxV, Option.some.injEq] at h
    subst h
    exact ⟨X, rfl, hx⟩
  | y :: xs, Xs, x, v, X, hxs, hx, h => by
    rw [Rvs_cons] at hxs
    obtain ⟨Y, Ys, rfl, hY, hYs⟩ := hxs
    unfold minmaxV at h
    split at h
    · rename_i e; cases e
    · rename_i k' b vs k a e
      cases e
      obtain ⟨h1, h2⟩ := bsel_some h
      simp only [Rv] at hY hx
      subst hY; subst hx
      have := keq_eq h1
      subst this
      obtain ⟨V, h3, h4⟩ := max_sound (X := .int k (if b > a then b else a)) hYs (by
        simp only [Rv, bsel_true]
        rw [bsel_eq, ile_eq]
        simp only [decide_eq_true_eq]
        congr 1
        split <;> split <;> omega) h2
      exact ⟨V, by rw [List.foldlM_cons]; simp only [Sem.run_bind, Builtin.max2, Sem.run_pure, Result.andThen_ok]; exact h3, h4⟩
    · cases h
theorem min_sound : ∀ {xs : List AV} {Xs : List Value} {x v : AV} {X : Value}, Rvs P σ xs Xs → Rv P σ x X → minmaxV false xs x = some v → ∃ V, (Xs.foldlM Builtin.min2 X).run P w = .ok V w ∧ Rv P σ v V
  | [], Xs, x, v, X, hxs, hx, h => by
    rw [Rvs_nil] at hxs
    subst hxs
    simp only [minmaxV, Option.some.injEq] at h
    subst h
    exact ⟨X, rfl, hx⟩
  | y :: xs, Xs, x, v, X, hxs, hx, h => by
    rw [Rvs_cons] at hxs
    obtain ⟨Y, Ys, rfl, hY, hYs⟩ := hxs
    unfold minmaxV at h
    split at h
    · rename_i e; cases e
    · rename_i k' b vs k a e
      cases e
      obtain ⟨h1, h2⟩ := bsel_some h
      simp only [Rv] at hY hx
      subst hY; subst hx
      have := keq_eq h1
      subst this
      obtain ⟨V, h3, h4⟩ := min_sound (X := .int k (if b < a then b else a)) hYs (by
        simp only [Rv, bsel_false]
        rw [bsel_eq, ile_eq]
        simp only [decide_eq_true_eq]
        congr 1
        split <;> split <;> omega) h2
      exact ⟨V, by rw [List.foldlM_cons]; simp only [Sem.run_bind, Builtin.min2, Sem.run_pure, Result.andThen_ok]; exact h3, h4⟩
    · cases h

theorem lenSl_sound {t ty : TypeId} {e : TypeId} (ht : P.underlying t = some (.slice e)) {x v : AV} {X : Value} (hx : Rv P σ x X) (h : lenSlV x = some v) : ∃ V, (Builtin.len_ #[t] ty #[X]).run P w = .ok V w ∧ Rv P σ v V := by
  cases x <;> simp only [lenSlV, reduceCtorEq, Option.some.injEq] at h <;> subst h <;> simp only [Rv] at hx
  · obtain ⟨L, _, rfl⟩ := hx; exact ⟨_, by simp [Builtin.len_, run_underlying ht]; rfl, by simp only [Rv]; rfl⟩
  · subst hx; exact ⟨_, by simp [Builtin.len_, run_underlying ht]; rfl, by simp only [Rv]; rfl⟩
  · obtain ⟨A, c, rfl⟩ := hx; exact ⟨_, by simp [Builtin.len_, run_underlying ht]; rfl, by simp only [Rv]; rfl⟩
theorem lenStr_sound {t ty : TypeId} (ht : P.underlying t = some .string) {x v : AV} {X : Value} (hx : Rv P σ x X) (h : lenStrV x = some v) : ∃ V, (Builtin.len_ #[t] ty #[X]).run P w = .ok V w ∧ Rv P σ v V := by
  cases x <;> simp only [lenStrV, reduceCtorEq, Option.some.injEq] at h <;> subst h <;> simp only [Rv] at hx
  obtain ⟨rfl, _⟩ := hx
  refine ⟨_, by simp [Builtin.len_, run_underlying ht]; rfl, ?_⟩
  simp only [Rv, lenL_eq, mkStr_size]
  rfl
theorem capSl_sound {t ty : TypeId} {e : TypeId} (ht : P.underlying t = some (.slice e)) {x v : AV} {X : Value} (hx : Rv P σ x X) (h : capSlV x = some v) : ∃ V, (Builtin.cap_ #[t] ty #[X]).run P w = .ok V w ∧ Rv P σ v V := by
  unfold capSlV at h
  split at h
  · cases h; simp only [Rv] at hx; subst hx; exact ⟨_, by simp [Builtin.cap_, run_underlying ht]; rfl, by simp only [Rv]; rfl⟩
  · cases h; simp only [Rv] at hx; obtain ⟨L, _, rfl⟩ := hx; exact ⟨_, by simp [Builtin.cap_, run_underlying ht]; rfl, by simp only [Rv]; rfl⟩
  · cases h
theorem MapR.length : ∀ {m : List (AV × AV)} {es : List MapEntry}, MapR P σ m es → es.length = m.length
  | [], es, h => by have h : es = [] := h; subst h; rfl
  | _ :: m, es, h => by obtain ⟨e, es', rfl, _, _, h⟩ := h; simp [h.length]
theorem lenMap_sound {t ty kt et : TypeId} (ht : P.underlying t = some (.map kt et)) (hR : Rep P σ S w) {x : AV} {X : Value} {es : List (AV × AV)} (hx : Rv P σ x X) (h : mapAt S.h x = some es) :
    ∃ V, (Builtin.len_ #[t] ty #[X]).run P w = .ok V w ∧ Rv P σ (.int .i64 (.ofNat (lenL es))) V := by
  obtain ⟨ms, h3, h4⟩ := mapAt_some hR hx h
  have hl := h3.length
  rcases h4 with ⟨rfl, rfl⟩ | ⟨r, c, rfl, hc⟩
  · refine ⟨_, by simp [Builtin.len_, run_underlying ht]; rfl, ?_⟩
    simp only [Rv, lenL_eq, ← hl]
    rfl
  · have hg : (getObj r).run P w = .ok (.map ms c) w := by simp [getObj, Sem.run, hc]
    refine ⟨_, by simp [Builtin.len_, run_underlying ht, hg]; rfl, ?_⟩
    simp only [Rv, lenL_eq, ← hl]
    simp [goInt]
end Go.Ev

namespace Go.Ev
variable {P : Program} {σ : Env} {S : St} {w : World}

theorem q_some {o : Option QOp} {r : AOp} (h : q o = some r) : ∃ x, o = some x ∧ r = .q x := by
  cases o with
  | none => cases h
  | some x => cases h; exact ⟨x, rfl, rfl⟩
theorem al_some {o : Option AlOp} {r : AOp} (h : al o = some r) : ∃ x, o = some x ∧ r = .a x := by
  cases o with
  | none => cases h
  | some x => cases h; exact ⟨x, rfl, rfl⟩
theorem xx_some {o : Option XOp} {r : AOp} (h : xx o = some r) : ∃ x, o = some x ∧ r = .x x := by
  cases o with
  | none => cases h
  | some x => cases h; exact ⟨x, rfl, rfl⟩

theorem bind_some' {α β : Type} {o : Option α} {f : α → Option β} {r : β} (h : (o >>= f) = some r) : ∃ a, o = some a ∧ f a = some r := by
  cases o with
  | none => cases h
  | some a => exact ⟨a, rfl, h⟩
theorem cCopy_some {P : Program} {b : Builtin} {as : List Operand} {ts : List TypeId} {op : AOp} (h : cCopy P b as ts = some op) : b = .copy ∧ ∃ d s t u e i D So, as = [d, s] ∧ ts = [t, u] ∧ elemOfT P t = some (e, i) ∧ cOpd P d = some D ∧ cOpd P s = some So ∧ op = .x (.copy i.size D So) := by
  cases b <;> simp only [cCopy, reduceCtorEq] at h
  split at h
  · rename_i d s t u
    split at h
    · rename_i e i he
      obtain ⟨y, h1, h2⟩ := xx_some h
      obtain ⟨D, hD, h1⟩ := bind_some' h1
      obtain ⟨So, hS, h1⟩ := bind_some' h1
      cases h1
      exact ⟨rfl, d, s, t, u, e, i, D, So, rfl, rfl, he, hD, hS, h2⟩
    · cases h
  · cases h


/-- A QUIET OPERATION. -/
theorem evQ_sound (hA : Asked P) {o : Oper} {qo : QOp} (hc : cOp P o.op = some (.q qo)) {F : Fr} {a : Act} (hF : FrR P σ F a.tmps) (hR : Rep P σ S w) {v : AV} (hv : evQ qo F S.h = some v) :
    ∃ V, (execOp a.eval o).run P w = .ok (.value V) w ∧ Rv P σ v V := by
  have lift : ∀ {s : Sem Value}, execOp a.eval o = (do pure (.value (← s))) → (∃ V, s.run P w = .ok V w ∧ Rv P σ v V) → ∃ V, (execOp a.eval o).run P w = .ok (.value V) w ∧ Rv P σ v V := by
    rintro s he ⟨V, h1, h2⟩
    exact ⟨V, by rw [he]; simp [h1], h2⟩
  obtain ⟨dst, op, type, pos, after, guard⟩ := o
  simp only at hc
  cases op with
  | move x =>
    obtain ⟨y, h1, h2⟩ := q_some hc; cases h2
    obtain ⟨X, hX, h1⟩ := bind_some' h1; cases h1
    cases hv
    exact ⟨_, rfl, opd_sound hF hR hX⟩
  | assign x =>
    obtain ⟨y, h1, h2⟩ := q_some hc; cases h2
    obtain ⟨X, hX, h1⟩ := bind_some' h1; cases h1
    cases hv
    exact ⟨_, rfl, opd_sound hF hR hX⟩
  | pick c x y =>
    obtain ⟨z, h1, h2⟩ := q_some hc; cases h2
    obtain ⟨C, hC, h1⟩ := bind_some' h1
    obtain ⟨X, hX, h1⟩ := bind_some' h1
    obtain ⟨Y, hY, h1⟩ := bind_some' h1; cases h1
    exact pick_sound (opd_sound hF hR hC) (opd_sound hF hR hX) (opd_sound hF hR hY) hv
  | alloc t => obtain ⟨y, _, h2⟩ := al_some hc; cases h2
  | box t x => obtain ⟨y, _, h2⟩ := al_some hc; cases h2
  | build t ps =>
    simp only [cOp] at hc
    split at hc
    · rename_i fs hu
      rw [Bool.cond_eq_ite] at hc
      split at hc
      · rename_i hk
        obtain ⟨y, h1, h2⟩ := q_some hc; cases h2
        obtain ⟨z, hz, h1⟩ := bind_some' h1
        obtain ⟨qs, hq, h1⟩ := bind_some' h1; cases h1
        obtain ⟨cs, h3, h4⟩ := osel_eq_some (show (osel (fillP z (partsV F qs)) fun cs => some (.agg cs)) = some v from hv)
        cases h4
        exact lift rfl (build_struct_sound hF hR hu hk hz hq h3)
      · cases hc
    · rename_i n e hu
      obtain ⟨y, h1, h2⟩ := q_some hc; cases h2
      obtain ⟨i, hi, h1⟩ := bind_some' h1
      obtain ⟨z, hz, h1⟩ := bind_some' h1
      obtain ⟨qs, hq, h1⟩ := bind_some' h1; cases h1
      obtain ⟨cs, h3, h4⟩ := osel_eq_some (show (osel (fillP z (partsV F qs)) fun cs => some (.agg cs)) = some v from hv)
      cases h4
      exact lift rfl (build_array_sound hF hR hu hi hz hq h3)
    · cases hc
  | buildSlice t n ps => obtain ⟨y, _, h2⟩ := al_some hc; cases h2
  | insert t m k x =>
    simp only [cOp] at hc
    split at hc
    · obtain ⟨y, _, h2⟩ := xx_some hc; cases h2
    · cases hc
  | load t x =>
    obtain ⟨y, h1, h2⟩ := q_some hc; cases h2
    obtain ⟨⟨agg, n⟩, hag, h1⟩ := bind_some' h1
    obtain ⟨X, hX, h1⟩ := bind_some' h1; cases h1
    exact lift rfl (qLd_sound hag hR (opd_sound hF hR hX) hv)
  | store t x y =>
    obtain ⟨y, _, h2⟩ := xx_some hc; cases h2
  | ready g => cases hc
  | waits g => cases hc
  | nilCheck x =>
    obtain ⟨y, h1, h2⟩ := q_some hc; cases h2
    obtain ⟨X, hX, h1⟩ := bind_some' h1; cases h1
    exact nilchk_sound hA rfl rfl (opd_sound hF hR hX) hv
  | binOp op t x y t' =>
    obtain ⟨z, h1, h2⟩ := q_some hc; cases h2
    obtain ⟨X, hX, h1⟩ := bind_some' h1
    obtain ⟨Y, hY, h1⟩ := bind_some' h1; cases h1
    exact lift rfl (bin_sound hA.eq (opd_sound hF hR hX) (opd_sound hF hR hY) hv)
  | unOp op t x =>
    obtain ⟨z, h1, h2⟩ := q_some hc; cases h2
    obtain ⟨X, hX, h1⟩ := bind_some' h1; cases h1
    exact lift rfl (un_sound (opd_sound hF hR hX) hv)
  | convert src dst x =>
    simp only [cOp] at hc
    split at hc
    · rename_i k j hs hd
      obtain ⟨z, h1, h2⟩ := q_some hc; cases h2
      obtain ⟨X, hX, h1⟩ := bind_some' h1; cases h1
      exact lift rfl (conv_sound hR (opd_sound hF hR hX) hv ⟨⟨_, hs⟩, hd⟩)
    · rename_i hs hd
      obtain ⟨z, h1, h2⟩ := q_some hc; cases h2
      obtain ⟨X, hX, h1⟩ := bind_some' h1; cases h1
      exact lift rfl (conv_sound hR (opd_sound hF hR hX) hv ⟨hs, hd⟩)
    · rename_i k hs hd
      obtain ⟨z, h1, h2⟩ := q_some hc; cases h2
      obtain ⟨X, hX, h1⟩ := bind_some' h1; cases h1
      exact lift rfl (conv_sound hR (opd_sound hF hR hX) hv ⟨⟨_, hs⟩, hd⟩)
    · rename_i e hs hd
      split at hc
      · rename_i he
        obtain ⟨z, h1, h2⟩ := q_some hc; cases h2
        obtain ⟨X, hX, h1⟩ := bind_some' h1; cases h1
        exact lift rfl (conv_sound hR (opd_sound hF hR hX) hv ⟨e, hs, he, hd⟩)
      · cases hc
    · split at hc
      · obtain ⟨y, _, h2⟩ := al_some hc; cases h2
      · cases hc
    · cases hc
  | sliceToArrayPointer t x => cases hc
  | makeInterface t x =>
    simp only [cOp] at hc
    split at hc
    · cases hc
    · rename_i d hni hu
      obtain ⟨z, h1, h2⟩ := q_some hc; cases h2
      obtain ⟨X, hX, h1⟩ := bind_some' h1; cases h1
      cases hv
      refine lift rfl ⟨.iface t (a.eval x), ?_, by simp only [Rv]; exact ⟨_, rfl, opd_sound hF hR hX⟩⟩
      simp only [Instr.makeInterface, Sem.run_bind, run_underlying hu, Result.andThen_ok]
      cases d <;> first | rfl | (exact absurd hu (by simpa using hni _))
    · cases hc
  | makeFunc fn first cap =>
    cases fn with
    | func f =>
      obtain ⟨z, h1, h2⟩ := q_some hc; cases h2
      obtain ⟨X, hX, h1⟩ := bind_some' h1
      obtain ⟨Y, hY, h1⟩ := bind_some' h1; cases h1
      cases hv
      refine lift rfl ⟨_, rfl, ?_⟩
      simp only [Rv]
      refine ⟨(first.map a.eval).toList, (cap.map a.eval).toList, rfl, ?_, ?_⟩
      · rw [Array.toList_map]; exact opds_sound hF hR hX
      · rw [Array.toList_map]; exact opds_sound hF hR hY
    | method name =>
      simp only [cOp] at hc
      split at hc
      · rename_i x hx hy
        obtain ⟨z, h1, h2⟩ := q_some hc; cases h2
        obtain ⟨X, hX, h1⟩ := bind_some' h1; cases h1
        cases hv
        refine lift rfl ⟨_, rfl, ?_⟩
        simp only [Rv]
        refine ⟨a.eval x, ?_, trivial, opd_sound hF hR hX⟩
        congr 1
        · apply Array.ext'; rw [Array.toList_map, hx]; rfl
        · apply Array.ext'; rw [Array.toList_map, hy]; rfl
      · cases hc
    | methodOf t name => cases hc
    | via t path f p => cases hc
    | yield l => cases hc
  | makeMap t r => cases r <;> simp only [cOp, reduceCtorEq] at hc; obtain ⟨y, _, h2⟩ := al_some hc; cases h2
  | makeChan t x => cases hc
  | makeSlice t l c => obtain ⟨y, _, h2⟩ := al_some hc; cases h2
  | slice t x lo hh mx =>
    simp only [cOp, Bool.cond_eq_ite] at hc
    split at hc
    · cases hc
    · rename_i hguard
      have hhm : mx.isSome = true → hh.isSome = true := fun hm => by
        cases hh with
        | none => simp [hm] at hguard
        | some _ => rfl
      split at hc
      · rename_i hu
        obtain ⟨z, h1, h2⟩ := q_some hc; cases h2
        obtain ⟨X, hX, h1⟩ := bind_some' h1
        obtain ⟨Lo, hLo, h1⟩ := bind_some' h1
        obtain ⟨Hi, hHi, h1⟩ := bind_some' h1
        obtain ⟨Mx, hMx, h1⟩ := bind_some' h1; cases h1
        have hv : slcV .str (X.val F) Lo Hi Mx F = some v := hv
        have hx := opd_sound hF hR hX
        generalize X.val F = xv at hv hx
        cases xv <;> simp only [slcV, reduceCtorEq] at hv
        refine lift rfl ?_
        have := slStr_sound hu hF hR hLo hHi hMx hx hv
        obtain ⟨V, h3, h4⟩ := this
        exact ⟨V, by simp only [Instr.sliceAt, Sem.run_bind, run_underlying hu, Result.andThen_ok]; exact h3, h4⟩
      · rename_i e hu
        obtain ⟨z, h1, h2⟩ := q_some hc; cases h2
        obtain ⟨i, hi, h1⟩ := bind_some' h1
        obtain ⟨X, hX, h1⟩ := bind_some' h1
        obtain ⟨Lo, hLo, h1⟩ := bind_some' h1
        obtain ⟨Hi, hHi, h1⟩ := bind_some' h1
        obtain ⟨Mx, hMx, h1⟩ := bind_some' h1; cases h1
        have hv : slcV (.slice i.size) (X.val F) Lo Hi Mx F = some v := hv
        have hx := opd_sound hF hR hX
        generalize X.val F = xv at hv hx
        cases xv <;> simp only [slcV, reduceCtorEq] at hv
        · refine lift rfl ?_
          obtain ⟨V, h3, h4⟩ := slSl_sound hu hi hF hR hLo hHi hMx hhm hx hv
          exact ⟨V, by simp only [Instr.sliceAt, Sem.run_bind, run_underlying hu, Result.andThen_ok]; exact h3, h4⟩
        · refine lift rfl ?_
          obtain ⟨V, h3, h4⟩ := slNil_sound hu hi hF hR hLo hHi hMx hhm hx hv
          exact ⟨V, by simp only [Instr.sliceAt, Sem.run_bind, run_underlying hu, Result.andThen_ok]; exact h3, h4⟩
        · refine lift rfl ?_
          obtain ⟨V, h3, h4⟩ := slEmp_sound hu hi hF hR hLo hHi hMx hhm hx hv
          exact ⟨V, by simp only [Instr.sliceAt, Sem.run_bind, run_underlying hu, Result.andThen_ok]; exact h3, h4⟩
      · rename_i n e hu
        obtain ⟨z, h1, h2⟩ := q_some hc; cases h2
        obtain ⟨i, hi, h1⟩ := bind_some' h1
        obtain ⟨X, hX, h1⟩ := bind_some' h1
        obtain ⟨Lo, hLo, h1⟩ := bind_some' h1
        obtain ⟨Hi, hHi, h1⟩ := bind_some' h1
        obtain ⟨Mx, hMx, h1⟩ := bind_some' h1; cases h1
        have hv : slcV (.arr n i.size) (X.val F) Lo Hi Mx F = some v := hv
        have hx := opd_sound hF hR hX
        generalize X.val F = xv at hv hx
        cases xv <;> simp only [slcV, reduceCtorEq] at hv
        exact lift rfl (slArr_sound hu hi hF hR hLo hHi hMx hhm hx hv)
      · cases hc
  | fieldAddr t x f =>
    simp only [cOp] at hc
    split at hc
    · rename_i fs hu
      obtain ⟨z, h1, h2⟩ := q_some hc; cases h2
      obtain ⟨fd, hf, h1⟩ := bind_some' h1
      obtain ⟨i, hi, h1⟩ := bind_some' h1
      split at h1
      · cases h1
      · rename_i h0
        obtain ⟨X, hX, h1⟩ := bind_some' h1; cases h1
        exact lift rfl (faddr_sound hu hf hi h0 (opd_sound hF hR hX) hv)
    · cases hc
  | field t x f =>
    simp only [cOp] at hc
    split at hc
    · rename_i fs hu
      obtain ⟨z, h1, h2⟩ := q_some hc; cases h2
      obtain ⟨fd, hf, h1⟩ := bind_some' h1
      obtain ⟨⟨agg, n⟩, hag, h1⟩ := bind_some' h1
      obtain ⟨X, hX, h1⟩ := bind_some' h1; cases h1
      exact lift rfl (fld_sound hu hf hag (opd_sound hF hR hX) hv)
    · cases hc
  | indexAddr t x ix =>
    simp only [cOp] at hc
    split at hc
    · rename_i e hu
      obtain ⟨z, h1, h2⟩ := q_some hc; cases h2
      obtain ⟨i, hi, h1⟩ := bind_some' h1
      obtain ⟨X, hX, h1⟩ := bind_some' h1
      obtain ⟨I, hI, h1⟩ := bind_some' h1; cases h1
      obtain ⟨j, h3, h4⟩ := osel_eq_some (show (osel (natOf (I.val F)) fun j => iaddrV (.slice i.size) (X.val F) j) = some v from hv)
      obtain ⟨k, hk⟩ := natOf_some h3
      have hi' := opd_sound hF hR hI
      rw [hk] at hi'
      simp only [Rv] at hi'
      exact lift rfl (iaddr_sound_sl hu hi (opd_sound hF hR hX) hi' h4)
    · rename_i n e hu
      obtain ⟨z, h1, h2⟩ := q_some hc; cases h2
      obtain ⟨i, hi, h1⟩ := bind_some' h1
      obtain ⟨X, hX, h1⟩ := bind_some' h1
      obtain ⟨I, hI, h1⟩ := bind_some' h1; cases h1
      obtain ⟨j, h3, h4⟩ := osel_eq_some (show (osel (natOf (I.val F)) fun j => iaddrV (.arr n i.size) (X.val F) j) = some v from hv)
      obtain ⟨k, hk⟩ := natOf_some h3
      have hi' := opd_sound hF hR hI
      rw [hk] at hi'
      simp only [Rv] at hi'
      exact lift rfl (iaddr_sound_arr hu hi (opd_sound hF hR hX) hi' h4)
    · cases hc
  | index t x ix =>
    simp only [cOp] at hc
    split at hc
    · rename_i hu
      obtain ⟨z, h1, h2⟩ := q_some hc; cases h2
      obtain ⟨X, hX, h1⟩ := bind_some' h1
      obtain ⟨I, hI, h1⟩ := bind_some' h1; cases h1
      obtain ⟨j, h3, h4⟩ := osel_eq_some (show (osel (natOf (I.val F)) fun j => idxStrV (X.val F) j) = some v from hv)
      obtain ⟨k, hk⟩ := natOf_some h3
      have hi' := opd_sound hF hR hI
      rw [hk] at hi'
      simp only [Rv] at hi'
      exact lift rfl (idxStr_sound hu (opd_sound hF hR hX) hi' h4)
    · rename_i n e hu
      obtain ⟨z, h1, h2⟩ := q_some hc; cases h2
      obtain ⟨⟨agg, s⟩, hag, h1⟩ := bind_some' h1
      obtain ⟨X, hX, h1⟩ := bind_some' h1
      obtain ⟨I, hI, h1⟩ := bind_some' h1; cases h1
      obtain ⟨j, h3, h4⟩ := osel_eq_some (show (osel (natOf (I.val F)) fun j => idxArrV (X.val F) agg n s j) = some v from hv)
      obtain ⟨k, hk⟩ := natOf_some h3
      have hi' := opd_sound hF hR hI
      rw [hk] at hi'
      simp only [Rv] at hi'
      exact lift rfl (idxArr_sound hu hag (opd_sound hF hR hX) hi' h4)
    · cases hc
  | lookup t m k ok =>
    simp only [cOp] at hc
    split at hc
    · rename_i kt et hu
      obtain ⟨z, h1, h2⟩ := q_some hc; cases h2
      obtain ⟨e, he, h1⟩ := bind_some' h1
      obtain ⟨zv, hz, h1⟩ := bind_some' h1
      obtain ⟨M, hM, h1⟩ := bind_some' h1
      obtain ⟨K, hK, h1⟩ := bind_some' h1; cases h1
      exact lift rfl (lookup_sound hA.eq hA.key hu he hz hR (opd_sound hF hR hM) (opd_sound hF hR hK) hv)
    · cases hc
  | mapUpdate t m k x =>
    simp only [cOp] at hc
    split at hc
    · obtain ⟨y, _, h2⟩ := xx_some hc; cases h2
    · cases hc
  | mapEntry t m k => cases hc
  | entryStore t m s x => cases hc
  | range t x => cases hc
  | next x b => cases hc
  | entry x => cases hc
  | typeAssert x xt t ok =>
    simp only [cOp] at hc
    split at hc
    · cases hc
    · rename_i d hni hu
      obtain ⟨z, h1, h2⟩ := q_some hc; cases h2
      obtain ⟨zv, hz, h1⟩ := bind_some' h1
      obtain ⟨X, hX, h1⟩ := bind_some' h1; cases h1
      exact lift rfl (tassert_sound hu (fun m e => by subst e; exact hni m rfl) hz (opd_sound hF hR hX) hv)
    · cases hc
  | extract x i =>
    obtain ⟨z, h1, h2⟩ := q_some hc; cases h2
    obtain ⟨X, hX, h1⟩ := bind_some' h1; cases h1
    exact lift rfl (extract_sound (opd_sound hF hR hX) hv)
  | call c =>
    obtain ⟨callee, args, argTypes⟩ := c
    cases callee with
    | value f =>
      simp only [cOp] at hc
      split at hc
      · obtain ⟨y, _, h2⟩ := xx_some hc; cases h2
      · obtain ⟨y, _, h2⟩ := xx_some hc; cases h2
    | invoke r m => obtain ⟨y, _, h2⟩ := xx_some hc; cases h2
    | builtin b =>
      have arr : ∀ {α : Type} {x : Array α} {l : List α}, x.toList = l → x = l.toArray := fun h => by apply Array.ext'; rw [h]
      simp only [cOp] at hc
      split at hc
      · rename_i x t hx ht
        have := arr hx; subst this
        have := arr ht; subst this
        split at hc
        · rename_i hu
          obtain ⟨z, h1, h2⟩ := q_some hc; cases h2
          obtain ⟨X, hX, h1⟩ := bind_some' h1; cases h1
          exact lift (s := Builtin.len_ #[t] type #[a.eval x]) (by simp [execOp, resolve, invoke, builtin]) (lenStr_sound hu (opd_sound hF hR hX) hv)
        · rename_i e hu
          obtain ⟨z, h1, h2⟩ := q_some hc; cases h2
          obtain ⟨X, hX, h1⟩ := bind_some' h1; cases h1
          exact lift (s := Builtin.len_ #[t] type #[a.eval x]) (by simp [execOp, resolve, invoke, builtin]) (lenSl_sound hu (opd_sound hF hR hX) hv)
        · rename_i n e hu
          obtain ⟨z, h1, h2⟩ := q_some hc; cases h2
          cases h1
          cases hv
          refine lift (s := Builtin.len_ #[t] type #[a.eval x]) (by simp [execOp, resolve, invoke, builtin]) ⟨goInt n, ?_, by simp only [Rv]; rfl⟩
          simp [Builtin.len_, run_underlying hu]
        · rename_i kt et hu
          obtain ⟨z, h1, h2⟩ := q_some hc; cases h2
          obtain ⟨X, hX, h1⟩ := bind_some' h1; cases h1
          obtain ⟨es, h3, h4⟩ := osel_eq_some (show (osel (mapAt S.h (X.val F)) fun es => some (.int .i64 (.ofNat (lenL es)))) = some v from hv)
          cases h4
          exact lift (s := Builtin.len_ #[t] type #[a.eval x]) (by simp [execOp, resolve, invoke, builtin]) (lenMap_sound hu hR (opd_sound hF hR hX) h3)
        · cases hc
      · rename_i x t hx ht
        have := arr hx; subst this
        have := arr ht; subst this
        split at hc
        · rename_i e hu
          obtain ⟨z, h1, h2⟩ := q_some hc; cases h2
          obtain ⟨X, hX, h1⟩ := bind_some' h1; cases h1
          exact lift (s := Builtin.cap_ #[t] type #[a.eval x]) (by simp [execOp, resolve, invoke, builtin]) (capSl_sound hu (opd_sound hF hR hX) hv)
        · cases hc
      · obtain ⟨z, h1, h2⟩ := q_some hc; cases h2
        obtain ⟨Xs, hXs, h1⟩ := bind_some' h1; cases h1
        have hxs := opds_sound hF hR hXs
        have hv : minmaxL true (valsOf Xs F) = some v := hv
        refine lift (s := Builtin.max_ argTypes type (args.map a.eval)) rfl ?_
        unfold Builtin.max_
        rw [Array.toList_map]
        cases hvl : valsOf Xs F with
        | nil => rw [hvl] at hv; simp [minmaxL] at hv
        | cons u us =>
          rw [hvl] at hv hxs
          rw [Rvs_cons] at hxs
          obtain ⟨U, Us, he, hU, hUs⟩ := hxs
          rw [he]
          exact max_sound hUs hU hv
      · obtain ⟨z, h1, h2⟩ := q_some hc; cases h2
        obtain ⟨Xs, hXs, h1⟩ := bind_some' h1; cases h1
        have hxs := opds_sound hF hR hXs
        have hv : minmaxL false (valsOf Xs F) = some v := hv
        refine lift (s := Builtin.min_ argTypes type (args.map a.eval)) rfl ?_
        unfold Builtin.min_
        rw [Array.toList_map]
        cases hvl : valsOf Xs F with
        | nil => rw [hvl] at hv; simp [minmaxL] at hv
        | cons u us =>
          rw [hvl] at hv hxs
          rw [Rvs_cons] at hxs
          obtain ⟨U, Us, he, hU, hUs⟩ := hxs
          rw [he]
          exact min_sound hUs hU hv
      · split at hc
        · rw [Bool.cond_eq_ite] at hc
          split at hc
          · obtain ⟨y, _, h2⟩ := xx_some hc; cases h2
          · cases hc
        · cases hc
      · split at hc
        · obtain ⟨y, _, h2⟩ := xx_some hc; cases h2
        · cases hc
      · obtain ⟨_, _, _, _, _, _, _, _, _, _, _, _, _, _, h2⟩ := cCopy_some hc; cases h2
  | go c => cases hc
  | defer c => cases hc
  | panic x => cases hc
  | send x y => cases hc
  | recv t x b => cases hc
  | select cs b => cases hc
end Go.Ev
