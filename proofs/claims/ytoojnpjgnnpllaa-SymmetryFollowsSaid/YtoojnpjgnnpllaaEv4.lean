import Derived.Test.YtoojnpjgnnpllaaEv3
namespace Go.Ev
variable {P : Program} {σ : Env} {S : St} {w : World}
theorem addr_add (r o n : Nat) : (⟨r, o, none⟩ : Addr).add n = ⟨r, o + n, none⟩ := Addr.add_mid r o n
theorem aFp {t e : TypeId} {i : TypeInfo} (ht : P.underlying t = some (.slice e)) (hi : P.info? e = some i) {F : Fr} {a : Act} (hF : oZ P σ F a.tmps) (hR : kT P σ S w)
  {b off len cap : Nat} {o : Bool} {lo hh mx : Option Operand} {Lo Hi Mx : Option cK} (hlo : lR P lo = some Lo) (hhi : lR P hh = some Hi) (hmx : lR P mx = some Mx)
  (hhm : mx.isSome = true → hh.isSome = true) {X : Value} (hx : Rv P σ (.sl b off len cap o) X) {v : AV} (h : aES i.size b off len cap o Lo Hi Mx F = some v) :
  ∃ V, (Instr.slice t X (lo.map a.eval) (hh.map a.eval) (mx.map a.eval)).run P w = .ok V w ∧ Rv P σ v V := by
 simp only [Rv] at hx
 obtain ⟨L, hL, rfl⟩ := hx
 obtain ⟨x, hb, h⟩ := aK h
 have hnone := aEV hmx
 have h6 := (oF hb).2.2.2
 cases o with
 | false =>
  have hrun := lL (e := 0) (isSlice := true) hF hR hlo hhi hmx hhm hb
  simp only [Bj, ite_self, aL] at hrun h
  simp only [Dy, Bb]
  rw [cH] at h
  split at h
  ·rename_i he
   rw [Bd] at he
   cases h
   refine ⟨_, by simp [Instr.slice, run_underlying ht, hrun, sizeOf, typeInfo, hi, he]; rfl, ?_⟩
   simp only [Rv]
   exact ⟨L, hL, by simp [he]⟩
  ·rename_i he
   rw [Bd] at he
   cases h
   refine ⟨.slice (some ⟨L.r, L.d + off + x.1 * i.size, none⟩) (x.2.1 - x.1) (x.2.2 - x.1), by simp [Instr.slice, run_underlying ht, hrun, sizeOf, typeInfo, hi, he, addr_add], ?_⟩
   simp only [Rv]
   exact ⟨L, hL, by simp [Ct]⟩
 | true =>
  have hrun := lL (e := L.e) (isSlice := true) hF hR hlo hhi hmx hhm hb
  simp only [aF, hnone] at h
  simp only [El]
  cases hm : mx.isNone
  ·rw [hm] at h hrun
   simp only [Dy, Bb, aL] at hrun h
   rw [cH] at h
   split at h
   ·rename_i he
    rw [Bd] at he
    cases h
    refine ⟨_, by simp [Instr.slice, run_underlying ht, hrun, sizeOf, typeInfo, hi, he]; rfl, ?_⟩
    simp only [Rv]
    exact ⟨L, hL, by simp [he]⟩
   ·rename_i he
    rw [Bd] at he
    cases h
    refine ⟨.slice (some ⟨L.r, L.d + off + x.1 * i.size, none⟩) (x.2.1 - x.1) (x.2.2 - x.1), by simp [Instr.slice, run_underlying ht, hrun, sizeOf, typeInfo, hi, he, addr_add], ?_⟩
    simp only [Rv]
    exact ⟨L, hL, by simp [Ct]⟩
  ·rw [hm] at h hrun
   simp only [El, aF] at hrun h
   rw [cH] at h
   split at h
   ·rename_i he
    rw [Bd] at he
    cases h
    have hlen : x.2.1 - x.1 = 0 := by omega
    simp only [Instr.slice, Sem.run_bind, run_underlying ht, Result.andThen_ok, hrun, sizeOf, typeInfo, run_program, hi, Sem.run_pure, hlen]
    by_cases h0 : x.2.2 + L.e = x.1
    ·exact ⟨_, by rw [if_pos h0], by simp only [Rv]; exact ⟨_, _, rfl⟩⟩
    ·exact ⟨_, by rw [if_neg h0], by simp only [Rv]; exact ⟨_, _, rfl⟩⟩
   ·rename_i he
    rw [Bd] at he
    cases h
    have h0 : ¬ (x.2.2 + L.e = x.1) := by omega
    refine ⟨.slice (some ⟨L.r, L.d + off + x.1 * i.size, none⟩) (x.2.1 - x.1) (x.2.2 + L.e - x.1), by simp [Instr.slice, run_underlying ht, hrun, sizeOf, typeInfo, hi, h0, addr_add], ?_⟩
    simp only [Rv]
    refine ⟨L, hL, ?_⟩
    simp only [El, Ct]
    congr 1
    omega
theorem aEr {t e : TypeId} {i : TypeInfo} (ht : P.underlying t = some (.slice e)) (hi : P.info? e = some i) {F : Fr} {a : Act} (hF : oZ P σ F a.tmps) (hR : kT P σ S w)
  {lo hh mx : Option Operand} {Lo Hi Mx : Option cK} (hlo : lR P lo = some Lo) (hhi : lR P hh = some Hi) (hmx : lR P mx = some Mx)
  (hhm : mx.isSome = true → hh.isSome = true) {X : Value} (hx : Rv P σ .emp X) {v : AV} (h : aIn Lo Hi Mx F = some v) :
  ∃ V, (Instr.slice t X (lo.map a.eval) (hh.map a.eval) (mx.map a.eval)).run P w = .ok V w ∧ Rv P σ v V := by
 simp only [Rv] at hx
 obtain ⟨A, c, rfl⟩ := hx
 obtain ⟨x, hb, h⟩ := aK h
 cases h
 have h6 := (oF hb).2.2.2
 have hrun := lL (e := c) (isSlice := true) hF hR hlo hhi hmx hhm hb
 simp only [Am] at hrun
 have h1 : x.1 = 0 := by omega
 have h2 : x.2.1 = 0 := by omega
 simp only [Instr.slice, Sem.run_bind, run_underlying ht, Result.andThen_ok, hrun, sizeOf, typeInfo, run_program, hi, Sem.run_pure, h1, h2, Cx, Ej]
 refine ⟨_, rfl, ?_⟩
 simp only [Rv, Option.map_some, Addr.add_zero', ite_self]
 exact ⟨A, _, rfl⟩
theorem aEu {t e : TypeId} {i : TypeInfo} (ht : P.underlying t = some (.slice e)) (hi : P.info? e = some i) {F : Fr} {a : Act} (hF : oZ P σ F a.tmps) (hR : kT P σ S w)
  {lo hh mx : Option Operand} {Lo Hi Mx : Option cK} (hlo : lR P lo = some Lo) (hhi : lR P hh = some Hi) (hmx : lR P mx = some Mx)
  (hhm : mx.isSome = true → hh.isSome = true) {X : Value} (hx : Rv P σ .nilsl X) {v : AV} (h : aJx Lo Hi Mx F = some v) :
  ∃ V, (Instr.slice t X (lo.map a.eval) (hh.map a.eval) (mx.map a.eval)).run P w = .ok V w ∧ Rv P σ v V := by
 simp only [Rv] at hx
 subst hx
 obtain ⟨x, hb, h⟩ := aK h
 cases h
 have h6 := (oF hb).2.2.2
 have hrun := lL (e := 0) (isSlice := true) hF hR hlo hhi hmx hhm hb
 simp only [Bj, ite_self] at hrun
 have h1 : x.1 = 0 := by omega
 have h2 : x.2.1 = 0 := by omega
 have h3 : x.2.2 = 0 := by omega
 simp only [Instr.slice, Sem.run_bind, run_underlying ht, Result.andThen_ok, hrun, sizeOf, typeInfo, run_program, hi, Sem.run_pure, h1, h2, h3, El, Ej]
 exact ⟨_, rfl, by simp only [Rv]⟩
theorem aEi {t e : TypeId} {n : Nat} {i : TypeInfo} (ht : P.underlying t = some (.array n e)) (hi : P.info? e = some i) {F : Fr} {a : Act} (hF : oZ P σ F a.tmps) (hR : kT P σ S w)
  {b off : Nat} {lo hh mx : Option Operand} {Lo Hi Mx : Option cK} (hlo : lR P lo = some Lo) (hhi : lR P hh = some Hi) (hmx : lR P mx = some Mx)
  (hhm : mx.isSome = true → hh.isSome = true) {X : Value} (hx : Rv P σ (.ptr b off) X) {v : AV} (h : aJo n i.size b off Lo Hi Mx F = some v) :
  ∃ V, (Instr.sliceAt t X (lo.map a.eval) (hh.map a.eval) (mx.map a.eval)).run P w = .ok V w ∧ Rv P σ v V := by
 simp only [Rv] at hx
 obtain ⟨L, hL, rfl⟩ := hx
 obtain ⟨x, hb, h⟩ := aK h
 have hrun := lL (e := 0) (isSlice := false) hF hR hlo hhi hmx hhm hb
 simp only [Bj, ite_self] at hrun
 rw [cH] at h
 split at h
 ·rename_i he
  rw [Bd] at he
  cases h
  refine ⟨_, by simp [Instr.sliceAt, run_underlying ht, Instr.sureAddr, hrun, sizeOf, typeInfo, hi, he]; rfl, ?_⟩
  simp only [Rv]
  exact ⟨L, hL, by simp [he]⟩
 ·rename_i he
  rw [Bd] at he
  cases h
  refine ⟨.slice (some ⟨L.r, L.d + off + x.1 * i.size, none⟩) (x.2.1 - x.1) (x.2.2 - x.1), by simp [Instr.sliceAt, run_underlying ht, Instr.sureAddr, hrun, sizeOf, typeInfo, hi, he, addr_add], ?_⟩
  simp only [Rv]
  exact ⟨L, hL, by simp [Ct]⟩
end Go.Ev
namespace Go.Ev
variable {P : Program} {σ : Env} {S : St} {w : World}
def aEw (_ : Program) : Prop := True
end Go.Ev
namespace Go.Ev
variable {P : Program} {σ : Env} {S : St} {w : World}
def aE3 (_ : Program) : Prop := True
structure vF (P : Program) : Prop where
 eq : aAv P
 key : aEw P
 mth : aE3 P
theorem aDc (hA : vF P) {x v : AV} {X : Value} {o : Oper} {a : Act} {xo : Operand} (ho : o.op = .nilCheck xo) (he : a.eval xo = X) (hx : Rv P σ x X) (h : rB x = some v) :
  ∃ V, (execOp a.eval o).run P w = .ok (.value V) w ∧ Rv P σ v V := by
 cases x <;> simp only [rB, reduceCtorEq, Ar] at h
 case ptr =>
  subst h
  have hx' := hx
  simp only [Rv] at hx'
  obtain ⟨L, hL, rfl⟩ := hx'
  exact ⟨_, by simp only [execOp, ho, he]; rfl, hx⟩
 case fn =>
  subst h
  have hx' := hx
  simp only [Rv] at hx'
  obtain ⟨A, B, rfl, _⟩ := hx'
  exact ⟨_, by simp only [execOp, ho, he]; rfl, hx⟩
 case yld =>
  subst h
  have hx' := hx
  simp only [Rv] at hx'
  obtain ⟨L, hL, rfl⟩ := hx'
  exact ⟨_, by simp only [execOp, ho, he]; rfl, hx⟩
 case iface =>
  subst h
  have hx' := hx
  simp only [Rv] at hx'
  obtain ⟨W, rfl, _⟩ := hx'
  exact ⟨_, by simp only [execOp, ho, he]; rfl, hx⟩
theorem aCd : ∀ {xs : List AV} {Xs : List Value} {x v : AV} {X : Value}, gO P σ xs Xs → Rv P σ x X → jT true xs x = some v → ∃ V, (Xs.foldlM Builtin.max2 X).run P w = .ok V w ∧ Rv P σ v V
 | [], Xs, x, v, X, hxs, hx, h => by
  rw [dD] at hxs
  subst hxs
  simp only [jT, Ar] at h
  subst h
  exact ⟨X, rfl, hx⟩
 | y :: xs, Xs, x, v, X, hxs, hx, h => by
  rw [dE] at hxs
  obtain ⟨Y, Ys, rfl, hY, hYs⟩ := hxs
  unfold jT at h
  split at h
  ·rename_i e; cases e
  ·rename_i k' b vs k a e
   cases e
   obtain ⟨h1, h2⟩ := cG h
   simp only [Rv] at hY hx
   subst hY; subst hx
   have := aBo h1
   subst this
   obtain ⟨V, h3, h4⟩ := aCd (X := .int k (if b > a then b else a)) hYs (by
    simp only [Rv, aF]
    rw [cH, nI]
    simp only [decide_eq_true_eq]
    congr 1
    split <;> split <;> omega) h2
   exact ⟨V, by rw [List.foldlM_cons]; simp only [Sem.run_bind, Builtin.max2, Sem.run_pure, Result.andThen_ok]; exact h3, h4⟩
  ·cases h
theorem aCO : ∀ {xs : List AV} {Xs : List Value} {x v : AV} {X : Value}, gO P σ xs Xs → Rv P σ x X → jT false xs x = some v → ∃ V, (Xs.foldlM Builtin.min2 X).run P w = .ok V w ∧ Rv P σ v V
 | [], Xs, x, v, X, hxs, hx, h => by
  rw [dD] at hxs
  subst hxs
  simp only [jT, Ar] at h
  subst h
  exact ⟨X, rfl, hx⟩
 | y :: xs, Xs, x, v, X, hxs, hx, h => by
  rw [dE] at hxs
  obtain ⟨Y, Ys, rfl, hY, hYs⟩ := hxs
  unfold jT at h
  split at h
  ·rename_i e; cases e
  ·rename_i k' b vs k a e
   cases e
   obtain ⟨h1, h2⟩ := cG h
   simp only [Rv] at hY hx
   subst hY; subst hx
   have := aBo h1
   subst this
   obtain ⟨V, h3, h4⟩ := aCO (X := .int k (if b < a then b else a)) hYs (by
    simp only [Rv, aL]
    rw [cH, nI]
    simp only [decide_eq_true_eq]
    congr 1
    split <;> split <;> omega) h2
   exact ⟨V, by rw [List.foldlM_cons]; simp only [Sem.run_bind, Builtin.min2, Sem.run_pure, Result.andThen_ok]; exact h3, h4⟩
  ·cases h
theorem aE4 {t ty : TypeId} {e : TypeId} (ht : P.underlying t = some (.slice e)) {x v : AV} {X : Value} (hx : Rv P σ x X) (h : lW x = some v) : ∃ V, (Builtin.len_ #[t] ty #[X]).run P w = .ok V w ∧ Rv P σ v V := by
 cases x <;> simp only [lW, reduceCtorEq, Ar] at h <;> subst h <;> simp only [Rv] at hx
 ·obtain ⟨L, _, rfl⟩ := hx; exact ⟨_, by simp [Builtin.len_, run_underlying ht]; rfl, by simp only [Rv]; rfl⟩
 ·subst hx; exact ⟨_, by simp [Builtin.len_, run_underlying ht]; rfl, by simp only [Rv]; rfl⟩
 ·obtain ⟨A, c, rfl⟩ := hx; exact ⟨_, by simp [Builtin.len_, run_underlying ht]; rfl, by simp only [Rv]; rfl⟩
end Go.Ev
namespace Go.Ev
variable {P : Program} {σ : Env} {S : St} {w : World}
theorem dK {o : Option uY} {r : AOp} (h : q o = some r) : ∃ x, o = some x ∧ r = .q x := by
 cases o with
 | none => cases h
 | some x => cases h; exact ⟨x, rfl, rfl⟩
theorem mH {o : Option sG} {r : AOp} (h : al o = some r) : ∃ x, o = some x ∧ r = .a x := by
 cases o with
 | none => cases h
 | some x => cases h; exact ⟨x, rfl, rfl⟩
theorem mY {o : Option XOp} {r : AOp} (h : xx o = some r) : ∃ x, o = some x ∧ r = .x x := by
 cases o with
 | none => cases h
 | some x => cases h; exact ⟨x, rfl, rfl⟩
theorem bG {α β : Type} {o : Option α} {f : α → Option β} {r : β} (h : (o >>= f) = some r) : ∃ a, o = some a ∧ f a = some r := by
 cases o with
 | none => cases h
 | some a => exact ⟨a, rfl, h⟩
theorem aCN (hA : vF P) {o : Oper} {qo : uY} (hc : xD P o.op = some (.q qo)) {F : Fr} {a : Act} (hF : oZ P σ F a.tmps) (hR : kT P σ S w) {v : AV} (hv : gR qo F S.h = some v) :
  ∃ V, (execOp a.eval o).run P w = .ok (.value V) w ∧ Rv P σ v V := by
 have lift : ∀ {s : Sem Value}, execOp a.eval o = (do pure (.value (← s))) → (∃ V, s.run P w = .ok V w ∧ Rv P σ v V) → ∃ V, (execOp a.eval o).run P w = .ok (.value V) w ∧ Rv P σ v V := by
  rintro s he ⟨V, h1, h2⟩
  exact ⟨V, by rw [he]; simp [h1], h2⟩
 obtain ⟨dst, op, type, pos, after, guard⟩ := o
 simp only at hc
 cases op with
 | move x =>
  obtain ⟨y, h1, h2⟩ := dK hc; cases h2
  obtain ⟨X, hX, h1⟩ := bG h1; cases h1
  cases hv
  exact ⟨_, rfl, cN hF hR hX⟩
 | assign x =>
  obtain ⟨y, h1, h2⟩ := dK hc; cases h2
  obtain ⟨X, hX, h1⟩ := bG h1; cases h1
  cases hv
  exact ⟨_, rfl, cN hF hR hX⟩
 | pick c x y =>
  obtain ⟨z, h1, h2⟩ := dK hc; cases h2
  obtain ⟨C, hC, h1⟩ := bG h1
  obtain ⟨X, hX, h1⟩ := bG h1
  obtain ⟨Y, hY, h1⟩ := bG h1; cases h1
  exact aFR (cN hF hR hC) (cN hF hR hX) (cN hF hR hY) hv
 | alloc t => obtain ⟨y, _, h2⟩ := mH hc; cases h2
 | box t x => obtain ⟨y, _, h2⟩ := mH hc; cases h2
 | build t ps =>
  simp only [xD] at hc
  split at hc
  ·rename_i fs hu
   rw [Bp] at hc
   split at hc
   ·rename_i hk
    obtain ⟨y, h1, h2⟩ := dK hc; cases h2
    obtain ⟨z, hz, h1⟩ := bG h1
    obtain ⟨qs, hq, h1⟩ := bG h1; cases h1
    obtain ⟨cs, h3, h4⟩ := aK (show (bE (eF z (dJ F qs)) fun cs => some (.agg cs)) = some v from hv)
    cases h4
    exact lift rfl (uE hF hR hu hk hz hq h3)
   ·cases hc
  ·rename_i n e hu
   obtain ⟨y, h1, h2⟩ := dK hc; cases h2
   obtain ⟨i, hi, h1⟩ := bG h1
   obtain ⟨z, hz, h1⟩ := bG h1
   obtain ⟨qs, hq, h1⟩ := bG h1; cases h1
   obtain ⟨cs, h3, h4⟩ := aK (show (bE (eF z (dJ F qs)) fun cs => some (.agg cs)) = some v from hv)
   cases h4
   exact lift rfl (xF hF hR hu hi hz hq h3)
  ·cases hc
 | buildSlice t n ps => obtain ⟨y, _, h2⟩ := mH hc; cases h2
 | insert t m k x => cases hc
 | load t x =>
  obtain ⟨y, h1, h2⟩ := dK hc; cases h2
  obtain ⟨⟨agg, n⟩, hag, h1⟩ := bG h1
  obtain ⟨X, hX, h1⟩ := bG h1; cases h1
  exact lift rfl (aGX hag hR (cN hF hR hX) hv)
 | store t x y =>
  obtain ⟨y, _, h2⟩ := mY hc; cases h2
 | ready g => cases hc
 | waits g => cases hc
 | nilCheck x =>
  obtain ⟨y, h1, h2⟩ := dK hc; cases h2
  obtain ⟨X, hX, h1⟩ := bG h1; cases h1
  exact aDc hA rfl rfl (cN hF hR hX) hv
 | binOp op t x y t' =>
  obtain ⟨z, h1, h2⟩ := dK hc; cases h2
  obtain ⟨X, hX, h1⟩ := bG h1
  obtain ⟨Y, hY, h1⟩ := bG h1; cases h1
  exact lift rfl (aHc hA.eq (cN hF hR hX) (cN hF hR hY) hv)
 | unOp op t x =>
  obtain ⟨z, h1, h2⟩ := dK hc; cases h2
  obtain ⟨X, hX, h1⟩ := bG h1; cases h1
  exact lift rfl (aIH (cN hF hR hX) hv)
 | convert src dst x => cases hc
 | sliceToArrayPointer t x => cases hc
 | makeInterface t x =>
  simp only [xD] at hc
  split at hc
  ·cases hc
  ·rename_i d hni hu
   obtain ⟨z, h1, h2⟩ := dK hc; cases h2
   obtain ⟨X, hX, h1⟩ := bG h1; cases h1
   cases hv
   refine lift rfl ⟨.iface t (a.eval x), ?_, by simp only [Rv]; exact ⟨_, rfl, cN hF hR hX⟩⟩
   simp only [Instr.makeInterface, Sem.run_bind, run_underlying hu, Result.andThen_ok]
   cases d <;> first | rfl | (exact absurd hu (by simpa using hni _))
  ·cases hc
 | makeFunc fn first cap =>
  cases fn with
  | func f =>
   obtain ⟨z, h1, h2⟩ := dK hc; cases h2
   obtain ⟨X, hX, h1⟩ := bG h1
   obtain ⟨Y, hY, h1⟩ := bG h1; cases h1
   cases hv
   refine lift rfl ⟨_, rfl, ?_⟩
   simp only [Rv]
   refine ⟨(first.map a.eval).toList, (cap.map a.eval).toList, rfl, ?_, ?_⟩
   ·rw [Em]; exact mE hF hR hX
   ·rw [Em]; exact mE hF hR hY
  | method name => cases hc
  | methodOf t name => cases hc
  | via t path f p => cases hc
  | yield l => cases hc
 | makeMap t r => cases hc
 | makeChan t x => cases hc
 | makeSlice t l c => obtain ⟨y, _, h2⟩ := mH hc; cases h2
 | slice t x lo hh mx =>
  simp only [xD, Bp] at hc
  split at hc
  ·cases hc
  ·rename_i hguard
   have hhm : mx.isSome = true → hh.isSome = true := fun hm => by
    cases hh with
    | none => simp [hm] at hguard
    | some _ => rfl
   split at hc
   ·rename_i e hu
    obtain ⟨z, h1, h2⟩ := dK hc; cases h2
    obtain ⟨i, hi, h1⟩ := bG h1
    obtain ⟨X, hX, h1⟩ := bG h1
    obtain ⟨Lo, hLo, h1⟩ := bG h1
    obtain ⟨Hi, hHi, h1⟩ := bG h1
    obtain ⟨Mx, hMx, h1⟩ := bG h1; cases h1
    have hv : qI (.slice i.size) (X.val F) Lo Hi Mx F = some v := hv
    have hx := cN hF hR hX
    generalize X.val F = xv at hv hx
    cases xv <;> simp only [qI, reduceCtorEq] at hv
    ·refine lift rfl ?_
     obtain ⟨V, h3, h4⟩ := aFp hu hi hF hR hLo hHi hMx hhm hx hv
     exact ⟨V, by simp only [Instr.sliceAt, Sem.run_bind, run_underlying hu, Result.andThen_ok]; exact h3, h4⟩
    ·refine lift rfl ?_
     obtain ⟨V, h3, h4⟩ := aEu hu hi hF hR hLo hHi hMx hhm hx hv
     exact ⟨V, by simp only [Instr.sliceAt, Sem.run_bind, run_underlying hu, Result.andThen_ok]; exact h3, h4⟩
    ·refine lift rfl ?_
     obtain ⟨V, h3, h4⟩ := aEr hu hi hF hR hLo hHi hMx hhm hx hv
     exact ⟨V, by simp only [Instr.sliceAt, Sem.run_bind, run_underlying hu, Result.andThen_ok]; exact h3, h4⟩
   ·rename_i n e hu
    obtain ⟨z, h1, h2⟩ := dK hc; cases h2
    obtain ⟨i, hi, h1⟩ := bG h1
    obtain ⟨X, hX, h1⟩ := bG h1
    obtain ⟨Lo, hLo, h1⟩ := bG h1
    obtain ⟨Hi, hHi, h1⟩ := bG h1
    obtain ⟨Mx, hMx, h1⟩ := bG h1; cases h1
    have hv : qI (.arr n i.size) (X.val F) Lo Hi Mx F = some v := hv
    have hx := cN hF hR hX
    generalize X.val F = xv at hv hx
    cases xv <;> simp only [qI, reduceCtorEq] at hv
    exact lift rfl (aEi hu hi hF hR hLo hHi hMx hhm hx hv)
   ·cases hc
 | fieldAddr t x f =>
  simp only [xD] at hc
  split at hc
  ·rename_i fs hu
   obtain ⟨z, h1, h2⟩ := dK hc; cases h2
   obtain ⟨fd, hf, h1⟩ := bG h1
   obtain ⟨i, hi, h1⟩ := bG h1
   split at h1
   ·cases h1
   ·rename_i h0
    obtain ⟨X, hX, h1⟩ := bG h1; cases h1
    exact lift rfl (aDN hu hf hi h0 (cN hF hR hX) hv)
  ·cases hc
 | field t x f =>
  simp only [xD] at hc
  split at hc
  ·rename_i fs hu
   obtain ⟨z, h1, h2⟩ := dK hc; cases h2
   obtain ⟨fd, hf, h1⟩ := bG h1
   obtain ⟨⟨agg, n⟩, hag, h1⟩ := bG h1
   obtain ⟨X, hX, h1⟩ := bG h1; cases h1
   exact lift rfl (aHM hu hf hag (cN hF hR hX) hv)
  ·cases hc
 | indexAddr t x ix =>
  simp only [xD] at hc
  split at hc
  ·rename_i e hu
   obtain ⟨z, h1, h2⟩ := dK hc; cases h2
   obtain ⟨i, hi, h1⟩ := bG h1
   obtain ⟨X, hX, h1⟩ := bG h1
   obtain ⟨I, hI, h1⟩ := bG h1; cases h1
   obtain ⟨j, h3, h4⟩ := aK (show (bE (eX (I.val F)) fun j => eT (.slice i.size) (X.val F) j) = some v from hv)
   obtain ⟨k, hk⟩ := nP h3
   have hi' := cN hF hR hI
   rw [hk] at hi'
   simp only [Rv] at hi'
   exact lift rfl (aAT hu hi (cN hF hR hX) hi' h4)
  ·rename_i n e hu
   obtain ⟨z, h1, h2⟩ := dK hc; cases h2
   obtain ⟨i, hi, h1⟩ := bG h1
   obtain ⟨X, hX, h1⟩ := bG h1
   obtain ⟨I, hI, h1⟩ := bG h1; cases h1
   obtain ⟨j, h3, h4⟩ := aK (show (bE (eX (I.val F)) fun j => eT (.arr n i.size) (X.val F) j) = some v from hv)
   obtain ⟨k, hk⟩ := nP h3
   have hi' := cN hF hR hI
   rw [hk] at hi'
   simp only [Rv] at hi'
   exact lift rfl (aAd hu hi (cN hF hR hX) hi' h4)
  ·cases hc
 | index t x ix => cases hc
 | lookup t m k ok => cases hc
 | mapUpdate t m k x => cases hc
 | mapEntry t m k => cases hc
 | entryStore t m s x => cases hc
 | range t x => cases hc
 | next x b => cases hc
 | entry x => cases hc
 | typeAssert x xt t ok => cases hc
 | extract x i =>
  obtain ⟨z, h1, h2⟩ := dK hc; cases h2
  obtain ⟨X, hX, h1⟩ := bG h1; cases h1
  exact lift rfl (aBY (cN hF hR hX) hv)
 | call c =>
  obtain ⟨callee, args, argTypes⟩ := c
  cases callee with
  | value f =>
   simp only [xD] at hc
   split at hc
   ·cases hc
   ·obtain ⟨y, _, h2⟩ := mY hc; cases h2
  | invoke r m => cases hc
  | builtin b =>
   have arr : ∀ {α : Type} {x : Array α} {l : List α}, x.toList = l → x = l.toArray := fun h => by apply Array.ext'; rw [h]
   simp only [xD] at hc
   split at hc
   ·rename_i x t hx ht
    have := arr hx; subst this
    have := arr ht; subst this
    split at hc
    ·rename_i e hu
     obtain ⟨z, h1, h2⟩ := dK hc; cases h2
     obtain ⟨X, hX, h1⟩ := bG h1; cases h1
     exact lift (s := Builtin.len_ #[t] type #[a.eval x]) (by simp [execOp, resolve, invoke, builtin]) (aE4 hu (cN hF hR hX) hv)
    ·cases hc
   ·obtain ⟨z, h1, h2⟩ := dK hc; cases h2
    obtain ⟨Xs, hXs, h1⟩ := bG h1; cases h1
    have hxs := mE hF hR hXs
    have hv : lM true (cW Xs F) = some v := hv
    refine lift (s := Builtin.max_ argTypes type (args.map a.eval)) rfl ?_
    unfold Builtin.max_
    rw [Em]
    cases hvl : cW Xs F with
    | nil => rw [hvl] at hv; simp [lM] at hv
    | cons u us =>
     rw [hvl] at hv hxs
     rw [dE] at hxs
     obtain ⟨U, Us, he, hU, hUs⟩ := hxs
     rw [he]
     exact aCd hUs hU hv
   ·obtain ⟨z, h1, h2⟩ := dK hc; cases h2
    obtain ⟨Xs, hXs, h1⟩ := bG h1; cases h1
    have hxs := mE hF hR hXs
    have hv : lM false (cW Xs F) = some v := hv
    refine lift (s := Builtin.min_ argTypes type (args.map a.eval)) rfl ?_
    unfold Builtin.min_
    rw [Em]
    cases hvl : cW Xs F with
    | nil => rw [hvl] at hv; simp [lM] at hv
    | cons u us =>
     rw [hvl] at hv hxs
     rw [dE] at hxs
     obtain ⟨U, Us, he, hU, hUs⟩ := hxs
     rw [he]
     exact aCO hUs hU hv
   ·split at hc
    ·rw [Bp] at hc
     split at hc
     ·obtain ⟨y, _, h2⟩ := mY hc; cases h2
     ·cases hc
    ·cases hc
   ·cases hc
 | go c => cases hc
 | defer c => cases hc
 | panic x => cases hc
 | send x y => cases hc
 | recv t x b => cases hc
 | select cs b => cases hc
end Go.Ev
