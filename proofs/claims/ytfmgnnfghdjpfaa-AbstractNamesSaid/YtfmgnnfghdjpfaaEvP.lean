import Derived.Test.YtfmgnnfghdjpfaaEvO
namespace Go.Ev
variable {P : Program} {σ : Env} {S : St} {w : World}

theorem addr_add (r o n : Nat) : (⟨r, o, none⟩ : Addr).add n = ⟨r, o + n, none⟩ := Addr.add_mid r o n

theorem slSl_sound {t e : TypeId} {i : TypeInfo} (ht : P.underlying t = some (.slice e)) (hi : P.info? e = some i) {F : Fr} {a : Act} (hF : FrR P σ F a.tmps) (hR : Rep P σ S w)
    {b off len cap : Nat} {o : Bool} {lo hh mx : Option Operand} {Lo Hi Mx : Option Opd} (hlo : cOpt P lo = some Lo) (hhi : cOpt P hh = some Hi) (hmx : cOpt P mx = some Mx)
    (hhm : mx.isSome = true → hh.isSome = true) {X : Value} (hx : Rv P σ (.sl b off len cap o) X) {v : AV} (h : slSl i.size b off len cap o Lo Hi Mx F = some v) :
    ∃ V, (Instr.slice t X (lo.map a.eval) (hh.map a.eval) (mx.map a.eval)).run P w = .ok V w ∧ Rv P σ v V := by
  simp only [Rv] at hx
  obtain ⟨L, hL, rfl⟩ := hx
  obtain ⟨x, hb, h⟩ := osel_eq_some h
  have hnone := cOpt_isSome hmx
  have h6 := (bounds_some hb).2.2.2
  cases o with
  | false =>
    have hrun := bounds_sound (e := 0) (isSlice := true) hF hR hlo hhi hmx hhm hb
    simp only [Nat.add_zero, ite_self, bsel_false] at hrun h
    simp only [if_false, Bool.false_eq_true]
    rw [bsel_eq] at h
    split at h
    · rename_i he
      rw [Nat.beq_eq] at he
      cases h
      refine ⟨_, by simp [Instr.slice, run_underlying ht, hrun, sizeOf, typeInfo, hi, he]; rfl, ?_⟩
      simp only [Rv]
      exact ⟨L, hL, by simp [he]⟩
    · rename_i he
      rw [Nat.beq_eq] at he
      cases h
      refine ⟨.slice (some ⟨L.r, L.d + off + x.1 * i.size, none⟩) (x.2.1 - x.1) (x.2.2 - x.1), by simp [Instr.slice, run_underlying ht, hrun, sizeOf, typeInfo, hi, he, addr_add], ?_⟩
      simp only [Rv]
      exact ⟨L, hL, by simp [Nat.add_assoc]⟩
  | true =>
    have hrun := bounds_sound (e := L.e) (isSlice := true) hF hR hlo hhi hmx hhm hb
    simp only [bsel_true, hnone] at h
    simp only [if_true]
    cases hm : mx.isNone
    · rw [hm] at h hrun
      simp only [if_false, Bool.false_eq_true, bsel_false] at hrun h
      rw [bsel_eq] at h
      split at h
      · rename_i he
        rw [Nat.beq_eq] at he
        cases h
        refine ⟨_, by simp [Instr.slice, run_underlying ht, hrun, sizeOf, typeInfo, hi, he]; rfl, ?_⟩
        simp only [Rv]
        exact ⟨L, hL, by simp [he]⟩
      · rename_i he
        rw [Nat.beq_eq] at he
        cases h
        refine ⟨.slice (some ⟨L.r, L.d + off + x.1 * i.size, none⟩) (x.2.1 - x.1) (x.2.2 - x.1), by simp [Instr.slice, run_underlying ht, hrun, sizeOf, typeInfo, hi, he, addr_add], ?_⟩
        simp only [Rv]
        exact ⟨L, hL, by simp [Nat.add_assoc]⟩
    · rw [hm] at h hrun
      simp only [if_true, bsel_true] at hrun h
      rw [bsel_eq] at h
      split at h
      · rename_i he
        rw [Nat.beq_eq] at he
        cases h
        have hlen : x.2.1 - x.1 = 0 := by omega
        simp only [Instr.slice, Sem.run_bind, run_underlying ht, Result.andThen_ok, hrun, sizeOf, typeInfo, run_program, hi, Sem.run_pure, hlen]
        by_cases h0 : x.2.2 + L.e = x.1
        · exact ⟨_, by rw [if_pos h0], by simp only [Rv]; exact ⟨_, _, rfl⟩⟩
        · exact ⟨_, by rw [if_neg h0], by simp only [Rv]; exact ⟨_, _, rfl⟩⟩
      · rename_i he
        rw [Nat.beq_eq] at he
        cases h
        have h0 : ¬ (x.2.2 + L.e = x.1) := by omega
        refine ⟨.slice (some ⟨L.r, L.d + off + x.1 * i.size, none⟩) (x.2.1 - x.1) (x.2.2 + L.e - x.1), by simp [Instr.slice, run_underlying ht, hrun, sizeOf, typeInfo, hi, h0, addr_add], ?_⟩
        simp only [Rv]
        refine ⟨L, hL, ?_⟩
        simp only [if_true, Nat.add_assoc]
        congr 1
        omega

theorem slEmp_sound {t e : TypeId} {i : TypeInfo} (ht : P.underlying t = some (.slice e)) (hi : P.info? e = some i) {F : Fr} {a : Act} (hF : FrR P σ F a.tmps) (hR : Rep P σ S w)
    {lo hh mx : Option Operand} {Lo Hi Mx : Option Opd} (hlo : cOpt P lo = some Lo) (hhi : cOpt P hh = some Hi) (hmx : cOpt P mx = some Mx)
    (hhm : mx.isSome = true → hh.isSome = true) {X : Value} (hx : Rv P σ .emp X) {v : AV} (h : slEmp Lo Hi Mx F = some v) :
    ∃ V, (Instr.slice t X (lo.map a.eval) (hh.map a.eval) (mx.map a.eval)).run P w = .ok V w ∧ Rv P σ v V := by
  simp only [Rv] at hx
  obtain ⟨A, c, rfl⟩ := hx
  obtain ⟨x, hb, h⟩ := osel_eq_some h
  cases h
  have h6 := (bounds_some hb).2.2.2
  have hrun := bounds_sound (e := c) (isSlice := true) hF hR hlo hhi hmx hhm hb
  simp only [Nat.zero_add] at hrun
  have h1 : x.1 = 0 := by omega
  have h2 : x.2.1 = 0 := by omega
  simp only [Instr.slice, Sem.run_bind, run_underlying ht, Result.andThen_ok, hrun, sizeOf, typeInfo, run_program, hi, Sem.run_pure, h1, h2, Nat.zero_mul, Nat.sub_self]
  refine ⟨_, rfl, ?_⟩
  simp only [Rv, Option.map_some, Addr.add_zero', ite_self]
  exact ⟨A, _, rfl⟩

theorem slNil_sound {t e : TypeId} {i : TypeInfo} (ht : P.underlying t = some (.slice e)) (hi : P.info? e = some i) {F : Fr} {a : Act} (hF : FrR P σ F a.tmps) (hR : Rep P σ S w)
    {lo hh mx : Option Operand} {Lo Hi Mx : Option Opd} (hlo : cOpt P lo = some Lo) (hhi : cOpt P hh = some Hi) (hmx : cOpt P mx = some Mx)
    (hhm : mx.isSome = true → hh.isSome = true) {X : Value} (hx : Rv P σ .nilsl X) {v : AV} (h : slNil Lo Hi Mx F = some v) :
    ∃ V, (Instr.slice t X (lo.map a.eval) (hh.map a.eval) (mx.map a.eval)).run P w = .ok V w ∧ Rv P σ v V := by
  simp only [Rv] at hx
  subst hx
  obtain ⟨x, hb, h⟩ := osel_eq_some h
  cases h
  have h6 := (bounds_some hb).2.2.2
  have hrun := bounds_sound (e := 0) (isSlice := true) hF hR hlo hhi hmx hhm hb
  simp only [Nat.add_zero, ite_self] at hrun
  have h1 : x.1 = 0 := by omega
  have h2 : x.2.1 = 0 := by omega
  have h3 : x.2.2 = 0 := by omega
  simp only [Instr.slice, Sem.run_bind, run_underlying ht, Result.andThen_ok, hrun, sizeOf, typeInfo, run_program, hi, Sem.run_pure, h1, h2, h3, if_true, Nat.sub_self]
  exact ⟨_, rfl, by simp only [Rv]⟩

theorem slArr_sound {t e : TypeId} {n : Nat} {i : TypeInfo} (ht : P.underlying t = some (.array n e)) (hi : P.info? e = some i) {F : Fr} {a : Act} (hF : FrR P σ F a.tmps) (hR : Rep P σ S w)
    {b off : Nat} {lo hh mx : Option Operand} {Lo Hi Mx : Option Opd} (hlo : cOpt P lo = some Lo) (hhi : cOpt P hh = some Hi) (hmx : cOpt P mx = some Mx)
    (hhm : mx.isSome = true → hh.isSome = true) {X : Value} (hx : Rv P σ (.ptr b off) X) {v : AV} (h : slArr n i.size b off Lo Hi Mx F = some v) :
    ∃ V, (Instr.sliceAt t X (lo.map a.eval) (hh.map a.eval) (mx.map a.eval)).run P w = .ok V w ∧ Rv P σ v V := by
  simp only [Rv] at hx
  obtain ⟨L, hL, rfl⟩ := hx
  obtain ⟨x, hb, h⟩ := osel_eq_some h
  have hrun := bounds_sound (e := 0) (isSlice := false) hF hR hlo hhi hmx hhm hb
  simp only [Nat.add_zero, ite_self] at hrun
  rw [bsel_eq] at h
  split at h
  · rename_i he
    rw [Nat.beq_eq] at he
    cases h
    refine ⟨_, by simp [Instr.sliceAt, run_underlying ht, Instr.sureAddr, hrun, sizeOf, typeInfo, hi, he]; rfl, ?_⟩
    simp only [Rv]
    exact ⟨L, hL, by simp [he]⟩
  · rename_i he
    rw [Nat.beq_eq] at he
    cases h
    refine ⟨.slice (some ⟨L.r, L.d + off + x.1 * i.size, none⟩) (x.2.1 - x.1) (x.2.2 - x.1), by simp [Instr.sliceAt, run_underlying ht, Instr.sureAddr, hrun, sizeOf, typeInfo, hi, he, addr_add], ?_⟩
    simp only [Rv]
    exact ⟨L, hL, by simp [Nat.add_assoc]⟩

theorem mkStr_extract (s : List Nat) (l h : Nat) : (mkStr s).extract l h = mkStr ((s.drop l).take (h - l)) := by
  apply ByteArray.ext
  rw [ByteArray.data_extract]
  simp [mkStr, List.extract_eq_take_drop]

theorem slStr_sound {t : TypeId} (ht : P.underlying t = some .string) {F : Fr} {a : Act} (hF : FrR P σ F a.tmps) (hR : Rep P σ S w)
    {s : List Nat} {lo hh mx : Option Operand} {Lo Hi Mx : Option Opd} (hlo : cOpt P lo = some Lo) (hhi : cOpt P hh = some Hi) (hmx : cOpt P mx = some Mx)
    {X : Value} (hx : Rv P σ (.str s) X) {v : AV} (h : slStr s Lo Hi Mx F = some v) :
    ∃ V, (Instr.slice t X (lo.map a.eval) (hh.map a.eval) (mx.map a.eval)).run P w = .ok V w ∧ Rv P σ v V := by
  simp only [Rv] at hx
  obtain ⟨rfl, hb⟩ := hx
  cases Mx with
  | some _ => simp [slStr] at h
  | none =>
    have hmn : mx = none := by cases mx with | none => rfl | some m => have := cOpt_isSome hmx; simp at this
    subst hmn
    simp only [slStr] at h
    obtain ⟨h', h1, h⟩ := osel_eq_some h
    obtain ⟨l, h2, h⟩ := osel_eq_some h
    obtain ⟨h3, h⟩ := bsel_some h
    obtain ⟨h4, h⟩ := bsel_some h
    obtain ⟨r, h5, h⟩ := osel_eq_some h
    cases h
    rw [lenL_eq] at h1 h3
    have hbd : bounds s.length s.length Lo Hi none F = some (l, h', s.length) := by
      unfold bounds
      rw [show optNat F s.length none = some s.length from rfl, osel_some, h1, osel_some, h2, osel_some, h3, h4, Nat.ble_self_eq_true]
      rfl
    have hrun := bounds_sound (e := 0) (isSlice := false) hF hR hlo hhi hmx (by simp) hbd
    simp only [Nat.add_zero, ite_self] at hrun
    obtain ⟨rfl, _⟩ := cut_some h5
    refine ⟨.string (mkStr ((s.drop l).take (h' - l))), ?_, by simp only [Rv]; exact ⟨trivial, fun x hx => hb x (List.mem_of_mem_drop (List.mem_of_mem_take hx))⟩⟩
    simp only [Instr.slice, Sem.run_bind, run_underlying ht, Result.andThen_ok, Option.map_none, Option.isSome_none, Bool.false_eq_true, if_false, mkStr_size, Sem.run_pure]
    have hrun' : (Instr.sliceBounds false s.length s.length (lo.map a.eval) (hh.map a.eval) none).run P w = .ok (l, h', s.length) w := hrun
    simp [hrun', mkStr_extract]

/-! ## maps -/
theorem findAsking_sound (hE : EqSound P) {kt : TypeId} {k : AV} {K : Value} (hk : Rv P σ k K) : ∀ {m : List (AV × AV)} {es : List MapEntry} {i : Nat} {r : Option (Nat × AV)}, MapR P σ m es → findK (eqT P kt) k m i = some r →
    ∃ R, (Instr.findAsking kt K es i).run P w = .ok R w ∧ (match r, R with
      | none, none => True
      | some (j, v), some (j', V) => j = j' ∧ Rv P σ v V
      | _, _ => False)
  | [], es, i, r, hm, h => by
    simp only [findK, Option.some.injEq] at h
    subst h
    have hm : es = [] := hm
    subst hm
    exact ⟨none, rfl, trivial⟩
  | (k', v) :: m, es, i, r, hm, h => by
    obtain ⟨e, es', rfl, h1, h2, h3⟩ := hm
    simp only [findK] at h
    obtain ⟨b, h4, h⟩ := osel_eq_some h
    have heq : (Op.equal kt K e.key).run P w = .ok b w := (eqv_sound (w := w) hE hk h1 h4).2 9998
    cases b
    · rw [bsel_false] at h
      obtain ⟨R, h5, h6⟩ := findAsking_sound hE hk h3 h
      exact ⟨R, by simp only [Instr.findAsking, Sem.run_bind, heq, Result.andThen_ok]; exact h5, h6⟩
    · rw [bsel_true] at h
      cases h
      exact ⟨some (i, e.val), by simp [Instr.findAsking, heq], rfl, h2⟩

end Go.Ev
