import Derived.Test.YtfmgnnfghdjpfaaEvZa
namespace Go.Ev

/-! ## The run in the order of the text -/
structure Tr (aos : List AO) (base : Nat) (call : CallF) (Ds : Nat → DS) : Prop where
  step : ∀ i o, aos[i]? = some o → evD o i base call (Ds i) = some (Ds (i + 1))

theorem evDs_trace {base : Nat} {call : CallF} : ∀ {l : List AO} {k : Nat} {D D' : DS}, evDs l k base call D = some D' →
    ∃ Ds : Nat → DS, Ds k = D ∧ (∀ i o, l[i]? = some o → evD o (k + i) base call (Ds (k + i)) = some (Ds (k + i + 1))) ∧ Ds (k + l.length) = D'
  | [], k, D, D', h => by
    simp only [evDs, Option.some.injEq] at h
    exact ⟨fun _ => D, rfl, fun i o ho => by simp at ho, h⟩
  | o :: l, k, D, D', h => by
    simp only [evDs] at h
    obtain ⟨D1, h1, h2⟩ := osel_eq_some h
    obtain ⟨Ds, e1, e2, e3⟩ := evDs_trace h2
    refine ⟨fun i => if i = k then D else Ds i, by simp, ?_, ?_⟩
    · intro i o' ho
      cases i with
      | zero =>
        simp at ho; subst ho
        simp only [Nat.add_zero, if_true]
        rw [if_neg (by omega), e1]
        exact h1
      | succ i =>
        have := e2 i o' (by simpa using ho)
        rw [show k + (i + 1) = k + 1 + i by omega]
        simp only []
        rw [if_neg (by omega), if_neg (by omega)]
        exact this
    · simp only [List.length_cons]
      rw [if_neg (by omega), show k + (l.length + 1) = k + 1 + l.length by omega]
      exact e3

section
variable {aos : List AO} {base : Nat} {call : CallF} {Ds : Nat → DS}

/-- how an operation goes in the run -/
inductive Kind (base : Nat) (call : CallF) (D D' : DS) (i : Nat) (o : AO) : Prop where
  | no (hw : wants o.grd D.F = false) (e : D' = ⟨putF o.dst D.F .undef, D.S, D.ps, D.hs, D.ls⟩)
  | q (q : QOp) (v : AV) (hw : wants o.grd D.F = true) (ho : o.op = .q q) (hv : evQ q D.F D.S.h = some v)
      (e : D' = ⟨putF o.dst D.F v, D.S, D.ps, D.hs, bsel (isLoad q) (⟨q, D.F, v, i, o.mask⟩ :: D.ls) D.ls⟩)
  | a (a : AlOp) (v : AV) (b : AB) (hw : wants o.grd D.F = true) (ho : o.op = .a a) (hv : evA a D.F (base + i) = some (v, b))
      (e : D' = ⟨putF o.dst D.F v, D.S, ⟨i, base + i, b⟩ :: D.ps, D.hs, D.ls⟩)
  | x (x : XOp) (v : AV) (S : St) (hw : wants o.grd D.F = true) (ho : o.op = .x x) (hl : lastOk D.hs o.mask = true)
      (hv : evX x call D.F ⟨(flush o.mask D.ps D.S.h).2, D.S.nx⟩ = some (v, S))
      (e : D' = ⟨putF o.dst D.F v, S, (flush o.mask D.ps D.S.h).1, (i, o.mask, S.h) :: D.hs, D.ls⟩)

theorem Tr.kind (h : Tr aos base call Ds) {i : Nat} {o : AO} (ho : aos[i]? = some o) : Kind base call (Ds i) (Ds (i + 1)) i o := by
  have h1 := h.step i o ho
  unfold evD at h1
  rw [bsel_eq] at h1
  split at h1
  · rename_i hw
    cases hop : o.op with
    | q q =>
      rw [hop] at h1
      obtain ⟨v, h2, h3⟩ := osel_eq_some (show (osel (evQ q (Ds i).F (Ds i).S.h) fun v => some (⟨putF o.dst (Ds i).F v, (Ds i).S, (Ds i).ps, (Ds i).hs, bsel (isLoad q) (⟨q, (Ds i).F, v, i, o.mask⟩ :: (Ds i).ls) (Ds i).ls⟩ : DS)) = some (Ds (i + 1)) from h1)
      exact .q q v hw hop h2 (Option.some.inj h3).symm
    | a a =>
      rw [hop] at h1
      obtain ⟨⟨v, b⟩, h2, h3⟩ := osel_eq_some (show (osel (evA a (Ds i).F (base + i)) fun r => some (⟨putF o.dst (Ds i).F r.1, (Ds i).S, ⟨i, base + i, r.2⟩ :: (Ds i).ps, (Ds i).hs, (Ds i).ls⟩ : DS)) = some (Ds (i + 1)) from h1)
      exact .a a v b hw hop h2 (Option.some.inj h3).symm
    | x x =>
      rw [hop] at h1
      obtain ⟨h4, h1⟩ := bsel_some (show bsel (lastOk (Ds i).hs o.mask) (osel (evX x call (Ds i).F ⟨(flush o.mask (Ds i).ps (Ds i).S.h).2, (Ds i).S.nx⟩) fun r =>
        some (⟨putF o.dst (Ds i).F r.1, r.2, (flush o.mask (Ds i).ps (Ds i).S.h).1, (i, o.mask, r.2.h) :: (Ds i).hs, (Ds i).ls⟩ : DS)) none = some (Ds (i + 1)) from h1)
      obtain ⟨⟨v, S⟩, h2, h3⟩ := osel_eq_some h1
      exact .x x v S hw hop h4 h2 (Option.some.inj h3).symm
  · rename_i hw
    exact .no (by simpa using hw) (Option.some.inj h1).symm

/-- a chain operation that is carried out -/
def Chain (aos : List AO) (Ds : Nat → DS) (c : Nat) : Prop := ∃ o x, aos[c]? = some o ∧ o.op = .x x ∧ wants o.grd (Ds c).F = true

theorem putF_other {d : Option Nat} {F : Fr} {v : AV} {t : Nat} (h : d ≠ some t) : tmpV t (putF d F v) = tmpV t F := by
  cases d with
  | none => rfl
  | some d => show tmpV t (F.set d (some v)) = _; rw [tmpV_set, if_neg (fun e => h (by rw [e]))]
theorem putF_same {d : Nat} {F : Fr} {v : AV} : tmpV d (putF (some d) F v) = v := by
  show tmpV d (F.set d (some v)) = _
  rw [tmpV_set, if_pos rfl]

theorem Tr.slot_step (h : Tr aos base call Ds) {i t : Nat} {o : AO} (ho : aos[i]? = some o) (hd : o.dst ≠ some t) : tmpV t (Ds (i + 1)).F = tmpV t (Ds i).F := by
  cases h.kind ho with
  | no hw e => rw [e]; exact putF_other hd
  | q q v hw ho' hv e => rw [e]; exact putF_other hd
  | a a v b hw ho' hv e => rw [e]; exact putF_other hd
  | x x v S hw ho' hl hv e => rw [e]; exact putF_other hd

theorem Tr.slot_keep (h : Tr aos base call Ds) {t i : Nat} : ∀ {k : Nat}, i ≤ k → k ≤ aos.length → (∀ j o, i ≤ j → j < k → aos[j]? = some o → o.dst ≠ some t) → tmpV t (Ds k).F = tmpV t (Ds i).F := by
  intro k
  induction k with
  | zero => intro h1 _ _; rw [Nat.le_zero.1 h1]
  | succ k ih =>
    intro h1 h2 h3
    rcases Nat.lt_or_ge k i with h4 | h4
    · rw [show i = k + 1 by omega]
    · rw [← ih h4 (by omega) (fun j o a b c => h3 j o a (by omega) c)]
      have ho : aos[k]? = some aos[k] := List.getElem?_eq_getElem (by omega)
      exact h.slot_step ho (h3 k _ h4 (by omega) ho)

theorem Tr.heap_step (h : Tr aos base call Ds) {i : Nat} (hi : i < aos.length) (hc : ¬ Chain aos Ds i) : (Ds (i + 1)).S = (Ds i).S ∧ (Ds (i + 1)).hs = (Ds i).hs := by
  have ho : aos[i]? = some aos[i] := List.getElem?_eq_getElem hi
  cases h.kind ho with
  | no hw e => rw [e]; exact ⟨rfl, rfl⟩
  | q q v hw ho' hv e => rw [e]; exact ⟨rfl, rfl⟩
  | a a v b hw ho' hv e => rw [e]; exact ⟨rfl, rfl⟩
  | x x v S hw ho' hl hv e => exact absurd ⟨_, x, ho, ho', hw⟩ hc

theorem Tr.heap_keep (h : Tr aos base call Ds) {i : Nat} : ∀ {k : Nat}, i ≤ k → k ≤ aos.length → (∀ j, i ≤ j → j < k → ¬ Chain aos Ds j) → (Ds k).S = (Ds i).S ∧ (Ds k).hs = (Ds i).hs := by
  intro k
  induction k with
  | zero => intro h1 _ _; rw [Nat.le_zero.1 h1]; exact ⟨rfl, rfl⟩
  | succ k ih =>
    intro h1 h2 h3
    rcases Nat.lt_or_ge k i with h4 | h4
    · rw [show i = k + 1 by omega]; exact ⟨rfl, rfl⟩
    · obtain ⟨a1, a2⟩ := ih h4 (by omega) (fun j a b => h3 j a (by omega))
      obtain ⟨b1, b2⟩ := h.heap_step (show k < aos.length by omega) (h3 k h4 (by omega))
      exact ⟨b1.trans a1, b2.trans a2⟩

theorem Tr.chain_hs (h : Tr aos base call Ds) {c : Nat} {o : AO} (ho : aos[c]? = some o) (hc : Chain aos Ds c) : (Ds (c + 1)).hs = (c, o.mask, (Ds (c + 1)).S.h) :: (Ds c).hs ∧ lastOk (Ds c).hs o.mask = true := by
  obtain ⟨o', x, h1, h2, h3⟩ := hc
  rw [ho] at h1; cases h1
  cases h.kind ho with
  | no hw e => rw [h3] at hw; cases hw
  | q q v hw ho' hv e => rw [h2] at ho'; cases ho'
  | a a v b hw ho' hv e => rw [h2] at ho'; cases ho'
  | x x v S hw ho' hl hv e => rw [e]; exact ⟨rfl, hl⟩

/-- the last chain operation before k -/
theorem Tr.head (h : Tr aos base call Ds) (h0 : (Ds 0).hs = []) : ∀ k, k ≤ aos.length → (∀ c, c < k → ¬ Chain aos Ds c) ∨ ∃ p m hp r, p < k ∧ Chain aos Ds p ∧ (Ds k).hs = (p, m, hp) :: r ∧ ∀ c, p < c → c < k → ¬ Chain aos Ds c := by
  intro k
  induction k with
  | zero => intro _; exact .inl (fun c hc => by omega)
  | succ k ih =>
    intro hk
    by_cases hc : Chain aos Ds k
    · have ho : aos[k]? = some aos[k] := List.getElem?_eq_getElem (by omega)
      exact .inr ⟨k, _, _, _, Nat.lt_succ_self k, hc, (h.chain_hs ho hc).1, fun c h1 h2 => by omega⟩
    · obtain ⟨_, e2⟩ := h.heap_step (show k < aos.length by omega) hc
      rcases ih (by omega) with h1 | ⟨p, m, hp, r, h1, h2, h3, h4⟩
      · refine .inl (fun c hlt => ?_)
        rcases Nat.lt_or_ge c k with h5 | h5
        · exact h1 c h5
        · rw [show c = k by omega]; exact hc
      · refine .inr ⟨p, m, hp, r, by omega, h2, e2.trans h3, fun c h5 h6 => ?_⟩
        rcases Nat.lt_or_ge c k with h7 | h7
        · exact h4 c h5 h7
        · rw [show c = k by omega]; exact hc

/-- the chain operations stand one before the other -/
theorem Tr.before (h : Tr aos base call Ds) (h0 : (Ds 0).hs = []) {D : Nat → Prop} (hD : ∀ j o, D j → aos[j]? = some o → ∀ i, Nat.testBit o.mask i = true → D i) :
    ∀ k, k < aos.length → ∀ o, aos[k]? = some o → Chain aos Ds k → (∀ i, Nat.testBit o.mask i = true → D i) → ∀ c, c < k → Chain aos Ds c → D c := by
  intro k
  induction k using Nat.strongRecOn with
  | _ k ih =>
    intro hk o ho hc hm c hlt hcc
    obtain ⟨_, hl⟩ := h.chain_hs ho hc
    rcases h.head h0 k (by omega) with h1 | ⟨p, m, hp, r, h1, h2, h3, h4⟩
    · exact absurd hcc (h1 c hlt)
    · rw [h3] at hl
      have hp' : D p := hm p hl
      rcases Nat.lt_trichotomy c p with h5 | h5 | h5
      · have hop : aos[p]? = some aos[p] := List.getElem?_eq_getElem (by omega)
        exact ih p h1 (by omega) _ hop h2 (hD p _ hp' hop) c h5 hcc
      · rw [h5]; exact hp'
      · exact absurd hcc (h4 c h5 hlt)

/-! ### the loads -/
theorem Tr.loads_mono (h : Tr aos base call Ds) {i : Nat} : ∀ {k : Nat}, i ≤ k → k ≤ aos.length → ∀ l ∈ (Ds i).ls, l ∈ (Ds k).ls := by
  intro k
  induction k with
  | zero => intro h1 _ l hl; rw [Nat.le_zero.1 h1] at hl; exact hl
  | succ k ih =>
    intro h1 h2 l hl
    rcases Nat.lt_or_ge k i with h4 | h4
    · rw [show k + 1 = i by omega]; exact hl
    · have := ih h4 (by omega) l hl
      have ho : aos[k]? = some aos[k] := List.getElem?_eq_getElem (by omega)
      cases h.kind ho with
      | no hw e => rw [e]; exact this
      | q q v hw ho' hv e => rw [e, bsel_eq]; simp only; split <;> simp [this]
      | a a v b hw ho' hv e => rw [e]; exact this
      | x x v S hw ho' hl hv e => rw [e]; exact this

theorem loadsOk_mem {h0 : T AB} {hs : List (Nat × Nat × T AB)} : ∀ {ls : List Loaded}, loadsOk h0 hs ls = true → ∀ l ∈ ls, loadGo l hs h0 = true
  | [], _, l, hl => by simp at hl
  | m :: ls, h, l, hl => by
    simp only [loadsOk, bsel_eq] at h
    split at h
    · rename_i h1
      rcases List.mem_cons.1 hl with rfl | h2
      · exact h1
      · exact loadsOk_mem h l h2
    · cases h

theorem Tr.hs_split (h : Tr aos base call Ds) : ∀ d k, k + d = aos.length → ∃ r, (Ds aos.length).hs.reverse = (Ds k).hs.reverse ++ r ∧ ∀ e ∈ r, k ≤ e.1 ∧ Chain aos Ds e.1 := by
  intro d
  induction d with
  | zero => intro k hk; exact ⟨[], by rw [show aos.length = k by omega]; simp, by simp⟩
  | succ d ih =>
    intro k hk
    obtain ⟨r, h1, h2⟩ := ih (k + 1) (by omega)
    by_cases hc : Chain aos Ds k
    · have ho : aos[k]? = some aos[k] := List.getElem?_eq_getElem (by omega)
      refine ⟨(k, aos[k].mask, (Ds (k + 1)).S.h) :: r, ?_, ?_⟩
      · rw [h1, (h.chain_hs ho hc).1]; simp
      · intro e he
        rcases List.mem_cons.1 he with rfl | he
        · exact ⟨Nat.le_refl _, hc⟩
        · exact ⟨by have := (h2 e he).1; omega, (h2 e he).2⟩
    · refine ⟨r, by rw [h1, (h.heap_step (by omega) hc).2], fun e he => ⟨by have := (h2 e he).1; omega, (h2 e he).2⟩⟩

/-- a load gives the same wherever it may stand -/
theorem Tr.load (h : Tr aos base call Ds) (h0 : (Ds 0).hs = []) (hok : loadsOk (Ds 0).S.h (Ds aos.length).hs.reverse (Ds aos.length).ls = true) {l : Loaded} (hl : l ∈ (Ds aos.length).ls) {D : Nat → Prop}
    (hD : ∀ j o, D j → aos[j]? = some o → ∀ i, Nat.testBit o.mask i = true → D i) (hm : ∀ i, Nat.testBit l.mask i = true → D i) (hi : ¬ D l.i) {s : Nat} (hs : s ≤ aos.length) (hc : ∀ c, Chain aos Ds c → (D c ↔ c < s)) :
    sameO l.v (evQ l.q l.F (Ds s).S.h) = true := by
  have hgo := loadsOk_mem hok l hl
  have key : ∀ k, k ≤ s → ∀ r, (Ds aos.length).hs.reverse = (Ds k).hs.reverse ++ r → loadGo l r (Ds k).S.h = true := by
    intro k
    induction k with
    | zero =>
      intro _ r hr
      rw [h0] at hr
      simp at hr
      rw [← hr]; exact hgo
    | succ k ih =>
      intro hk r hr
      by_cases hck : Chain aos Ds k
      · have ho : aos[k]? = some aos[k] := List.getElem?_eq_getElem (by omega)
        have h1 := (h.chain_hs ho hck).1
        have h2 := ih (by omega) ((k, aos[k].mask, (Ds (k + 1)).S.h) :: r) (by rw [hr, h1]; simp)
        have hDk : D k := (hc k hck).2 (by omega)
        have hbit : Nat.testBit aos[k].mask l.i = false := by
          cases hb : Nat.testBit aos[k].mask l.i with
          | false => rfl
          | true => exact absurd (hD k _ hDk ho _ hb) hi
        simp only [loadGo, bsel_eq, hbit] at h2
        split at h2
        · exact h2
        · split at h2
          · simpa using h2
          · cases h2
      · obtain ⟨e1, e2⟩ := h.heap_step (show k < aos.length by omega) hck
        rw [e1]
        exact ih (by omega) r (by rw [hr, e2])
  obtain ⟨r, h1, h2⟩ := h.hs_split (aos.length - s) s (by omega)
  have h3 := key s (Nat.le_refl _) r h1
  cases r with
  | nil => exact h3
  | cons e r =>
    obtain ⟨c, m, hp⟩ := e
    obtain ⟨h4, h5⟩ := h2 (c, m, hp) (by simp)
    have hbit : Nat.testBit l.mask c = false := by
      cases hb : Nat.testBit l.mask c with
      | false => rfl
      | true => have := (hc c h5).1 (hm c hb); simp only at h4; omega
    simp only [loadGo, bsel_eq, hbit] at h3
    by_cases h6 : sameO l.v (evQ l.q l.F (Ds s).S.h) = true
    · exact h6
    · rw [if_neg (by simp), if_neg h6] at h3; cases h3
end

theorem strEq_id : ∀ {a b : List Nat}, strEq a b = true → a = b
  | [], [], _ => rfl
  | [], _ :: _, h => by simp [strEq] at h
  | _ :: _, [], h => by simp [strEq] at h
  | a :: x, b :: y, h => by
    simp only [strEq, bsel_eq] at h
    split at h
    · rename_i h1; rw [Nat.eq_of_beq_eq_true h1, strEq_id h]
    · cases h
mutual
theorem sameV_eq : ∀ (a b : AV), sameV a b = true → a = b
  | .bool a, v, h => by cases v <;> simp only [sameV, beq2_eq, reduceCtorEq, Bool.false_eq_true] at h; rw [eq_of_beq h]
  | .int k a, v, h => by
    cases v <;> simp only [sameV, bsel_eq, reduceCtorEq, Bool.false_eq_true] at h
    split at h
    · rename_i h1; rw [keq_eq h1]; rw [ieq_eq] at h; rw [eq_of_beq h]
    · cases h
  | .str a, v, h => by cases v <;> simp only [sameV, reduceCtorEq, Bool.false_eq_true] at h; rw [strEq_id h]
  | .ptr a b, v, h => by
    cases v <;> simp only [sameV, bsel_eq, reduceCtorEq, Bool.false_eq_true] at h
    split at h
    · rename_i h1; rw [Nat.eq_of_beq_eq_true h1, Nat.eq_of_beq_eq_true h]
    · cases h
  | .nilp, v, h => by cases v <;> first | rfl | simp only [sameV, Bool.false_eq_true] at h
  | .sl a b c d e, v, h => by
    cases v <;> simp only [sameV, reduceCtorEq, Bool.false_eq_true, Bool.and_eq_true, beq2_eq] at h
    obtain ⟨⟨⟨⟨h1, h2⟩, h3⟩, h4⟩, h5⟩ := h
    rw [Nat.eq_of_beq_eq_true h1, Nat.eq_of_beq_eq_true h2, Nat.eq_of_beq_eq_true h3, Nat.eq_of_beq_eq_true h4, eq_of_beq h5]
  | .nilsl, v, h => by cases v <;> first | rfl | simp only [sameV, Bool.false_eq_true] at h
  | .emp, v, h => by cases v <;> first | rfl | simp only [sameV, Bool.false_eq_true] at h
  | .map a, v, h => by cases v <;> simp only [sameV, reduceCtorEq, Bool.false_eq_true] at h; rw [Nat.eq_of_beq_eq_true h]
  | .nilmap, v, h => by cases v <;> first | rfl | simp only [sameV, Bool.false_eq_true] at h
  | .fn f a b, v, h => by
    cases v <;> simp only [sameV, reduceCtorEq, Bool.false_eq_true, Bool.and_eq_true] at h
    obtain ⟨⟨h1, h2⟩, h3⟩ := h
    rw [Nat.eq_of_beq_eq_true h1, sameVs_eq _ _ h2, sameVs_eq _ _ h3]
  | .nilfn, v, h => by cases v <;> first | rfl | simp only [sameV, Bool.false_eq_true] at h
  | .yld a, v, h => by cases v <;> simp only [sameV, reduceCtorEq, Bool.false_eq_true] at h; rw [Nat.eq_of_beq_eq_true h]
  | .iface t w, v, h => by
    cases v <;> simp only [sameV, reduceCtorEq, Bool.false_eq_true, Bool.and_eq_true] at h
    rw [Nat.eq_of_beq_eq_true h.1, sameV_eq _ _ h.2]
  | .niliface, v, h => by cases v <;> first | rfl | simp only [sameV, Bool.false_eq_true] at h
  | .mth n t w, v, h => by cases v <;> simp only [sameV, Bool.false_eq_true] at h
  | .agg a, v, h => by cases v <;> simp only [sameV, reduceCtorEq, Bool.false_eq_true] at h; rw [sameVs_eq _ _ h]
  | .tup a, v, h => by cases v <;> simp only [sameV, reduceCtorEq, Bool.false_eq_true] at h; rw [sameVs_eq _ _ h]
theorem sameVs_eq : ∀ (a b : List AV), sameVs a b = true → a = b
  | [], [], _ => rfl
  | [], _ :: _, h => by simp [sameVs] at h
  | _ :: _, [], h => by simp [sameVs] at h
  | a :: x, b :: y, h => by
    simp only [sameVs, bsel_eq] at h
    split at h
    · rename_i h1; rw [sameV_eq _ _ h1, sameVs_eq _ _ h]
    · cases h
end
theorem sameO_eq {v : AV} {r : Option AV} (h : sameO v r = true) : r = some v := by
  cases r with
  | none => cases h
  | some w => rw [sameV_eq _ _ h]
end Go.Ev
