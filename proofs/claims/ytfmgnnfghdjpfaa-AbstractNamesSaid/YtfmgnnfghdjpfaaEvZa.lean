import Derived.Test.YtfmgnnfghdjpfaaEvY
namespace Go.Ev

/-! ## What an operation reads -/
def Agree (l : List Nat) (F F' : Fr) : Prop := ∀ t ∈ l, tmpV t F = tmpV t F'
theorem Agree.left {l m : List Nat} {F F' : Fr} (h : Agree (l ++ m) F F') : Agree l F F' := fun t ht => h t (List.mem_append_left _ ht)
theorem Agree.right {l m : List Nat} {F F' : Fr} (h : Agree (l ++ m) F F') : Agree m F F' := fun t ht => h t (List.mem_append_right _ ht)

theorem val_congr {x : Opd} {F F' : Fr} (h : Agree x.rd F F') : x.val F = x.val F' := by
  cases x with
  | t i => exact h i (by simp [Opd.rd])
  | c v => rfl
theorem vals_congr {F F' : Fr} : ∀ {xs : List Opd}, Agree (rds xs) F F' → valsOf xs F = valsOf xs F'
  | [], _ => rfl
  | x :: xs, h => by
    show x.val F :: valsOf xs F = x.val F' :: valsOf xs F'
    rw [val_congr h.left, vals_congr h.right]
theorem optNat_congr {x : Option Opd} {F F' : Fr} (d : Nat) (h : Agree (rdo x) F F') : optNat F d x = optNat F' d x := by
  cases x with
  | none => rfl
  | some x => simp only [optNat]; rw [val_congr (show Agree x.rd F F' from h)]
theorem partsV_congr {F F' : Fr} : ∀ {ps : List (Nat × Nat × Opd)}, Agree (rdp ps) F F' → partsV F ps = partsV F' ps
  | [], _ => rfl
  | (a, b, x) :: ps, h => by
    simp only [partsV]
    rw [val_congr h.left, partsV_congr h.right]
theorem parts2V_congr {F F' : Fr} (s : Nat) : ∀ {ps : List (Nat × Opd)}, Agree (rdp2 ps) F F' → parts2V s F ps = parts2V s F' ps
  | [], _ => rfl
  | (a, x) :: ps, h => by
    simp only [parts2V]
    rw [val_congr h.left, parts2V_congr s h.right]
theorem bounds_congr {F F' : Fr} {lo hi mx : Option Opd} (a b : Nat) (h1 : Agree (rdo lo) F F') (h2 : Agree (rdo hi) F F') (h3 : Agree (rdo mx) F F') : bounds a b lo hi mx F = bounds a b lo hi mx F' := by
  simp only [bounds, optNat_congr _ h1, optNat_congr _ h2, optNat_congr _ h3]
theorem slcV_congr {F F' : Fr} {lo hi mx : Option Opd} (k : SlK) (v : AV) (h1 : Agree (rdo lo) F F') (h2 : Agree (rdo hi) F F') (h3 : Agree (rdo mx) F F') : slcV k v lo hi mx F = slcV k v lo hi mx F' := by
  unfold slcV
  split
  · simp only [slStr, optNat_congr _ h1, optNat_congr _ h2]
  · simp only [slSl, bounds_congr _ _ h1 h2 h3]
  · simp only [slNil, bounds_congr _ _ h1 h2 h3]
  · simp only [slEmp, bounds_congr _ _ h1 h2 h3]
  · simp only [slArr, bounds_congr _ _ h1 h2 h3]
  · rfl

theorem evQ_congr {q : QOp} {F F' : Fr} (h : Agree q.rd F F') (hp : T AB) : evQ q F hp = evQ q F' hp := by
  cases q with
  | mv x => show some (x.val F) = _; rw [val_congr (x := x) h]; rfl
  | pick c a b => show qPickB (c.val F) a b F = qPickB (c.val F') a b F'; simp only [qPickB, val_congr h.left, val_congr h.right.left, val_congr h.right.right]
  | build z ps => show osel (fillP z (partsV F ps)) _ = _; rw [partsV_congr h]; rfl
  | ld a n x => show qLdV (x.val F) a n hp = qLdV (x.val F') a n hp; rw [val_congr h]
  | nilchk x => show nilchkV (x.val F) = nilchkV (x.val F'); rw [val_congr h]
  | bin op e x y => show binV op e (x.val F) (y.val F) = binV op e (x.val F') (y.val F'); rw [val_congr h.left, val_congr h.right]
  | un op x => show unV op (x.val F) = unV op (x.val F'); rw [val_congr h]
  | conv k x => show convV k (x.val F) hp = convV k (x.val F') hp; rw [val_congr h]
  | mkIface t x => show some (AV.iface t (x.val F)) = some (AV.iface t (x.val F')); rw [val_congr h]
  | mkFunc f a b => show some (AV.fn f (valsOf a F) (valsOf b F)) = some (AV.fn f (valsOf a F') (valsOf b F')); rw [vals_congr h.left, vals_congr h.right]
  | slc k x lo hi mx => show slcV k (x.val F) lo hi mx F = slcV k (x.val F') lo hi mx F'; rw [val_congr h.left, slcV_congr k _ h.right.left h.right.right.left h.right.right.right]
  | faddr off x => show faddrV (x.val F) off = faddrV (x.val F') off; rw [val_congr h]
  | fld a off n x => show fldV (x.val F) a off n = fldV (x.val F') a off n; rw [val_congr h]
  | iaddr k x ix => show (osel (natOf (ix.val F)) fun i => iaddrV k (x.val F) i) = osel (natOf (ix.val F')) fun i => iaddrV k (x.val F') i; rw [val_congr h.left, val_congr h.right]
  | idxArr a n s x ix => show (osel (natOf (ix.val F)) fun i => idxArrV (x.val F) a n s i) = osel (natOf (ix.val F')) fun i => idxArrV (x.val F') a n s i; rw [val_congr h.left, val_congr h.right]
  | idxStr x ix => show (osel (natOf (ix.val F)) fun i => idxStrV (x.val F) i) = osel (natOf (ix.val F')) fun i => idxStrV (x.val F') i; rw [val_congr h.left, val_congr h.right]
  | lookup e z ok m k => show (osel (mapAt hp (m.val F)) fun es => osel (findKK e (k.val F) es) fun r => lookupV r z ok) = osel (mapAt hp (m.val F')) fun es => osel (findKK e (k.val F') es) fun r => lookupV r z ok; rw [val_congr h.left, val_congr h.right]
  | tassert t z ok x => show tassertV (x.val F) t z ok = tassertV (x.val F') t z ok; rw [val_congr h]
  | extract x i => show extractV (x.val F) i = extractV (x.val F') i; rw [val_congr h]
  | lenArr n => rfl
  | lenStr x => show lenStrV (x.val F) = lenStrV (x.val F'); rw [val_congr h]
  | lenSl x => show lenSlV (x.val F) = lenSlV (x.val F'); rw [val_congr h]
  | lenMap x => show (osel (mapAt hp (x.val F)) fun es => some (AV.int .i64 (.ofNat (lenL es)))) = osel (mapAt hp (x.val F')) fun es => some (AV.int .i64 (.ofNat (lenL es))); rw [val_congr h]
  | capSl x => show capSlV (x.val F) = capSlV (x.val F'); rw [val_congr h]
  | minmax m xs => show minmaxL m (valsOf xs F) = minmaxL m (valsOf xs F'); rw [vals_congr h]
  | mkMeth n tbl x => show some (AV.mth n tbl (x.val F)) = some (AV.mth n tbl (x.val F')); rw [val_congr h]

/-- what is no load does not look at the heap -/
theorem evQ_blind {q : QOp} (hq : isLoad q = false) (F : Fr) (h h' : T AB) : evQ q F h = evQ q F h' := by
  cases q with
  | ld a n x => cases hq
  | lookup e z ok m k => cases hq
  | lenMap x => cases hq
  | conv k x =>
    show convV k (x.val F) h = convV k (x.val F) h'
    cases k with
    | bytesToStr => cases hq
    | int k => cases x.val F <;> rfl
    | same => cases x.val F <;> rfl
    | intToStr =>
      cases x.val F with
      | int k n => cases n <;> rfl
      | _ => rfl
  | _ => rfl

theorem evA_congr {a : AlOp} {F F' : Fr} (h : Agree a.rd F F') (id : Nat) : evA a F id = evA a F' id := by
  cases a with
  | alloc t cs => rfl
  | box t x => show (osel (x.val F).cells fun cs => some (AV.ptr id 0, AB.cells cs false 0)) = osel (x.val F').cells fun cs => some (AV.ptr id 0, AB.cells cs false 0); rw [val_congr h]
  | bslice t s len z ps => show (osel (fillP (repeatL z len) (parts2V s F ps)) fun cs => some (AV.sl id 0 len len false, AB.cells cs false 0)) = osel (fillP (repeatL z len) (parts2V s F' ps)) fun cs => some (AV.sl id 0 len len false, AB.cells cs false 0); rw [parts2V_congr s h]
  | mkSlice t s by_ z l c =>
    show aMkSlice t s by_ z l c F id = aMkSlice t s by_ z l c F' id
    unfold aMkSlice; rw [val_congr h.left, val_congr h.right]
  | mkMap => rfl
  | strBytes t x => show strBytesV (x.val F) id = strBytesV (x.val F') id; rw [val_congr h]

theorem evX_congr {x : XOp} {F F' : Fr} (h : Agree x.rd F F') (call : CallF) (S : St) : evX x call F S = evX x call F' S := by
  cases x with
  | st n x v => show (osel (v.val F).cells fun cs => xStV (x.val F) n cs S) = osel (v.val F').cells fun cs => xStV (x.val F') n cs S; rw [val_congr h.left, val_congr h.right]
  | call f args => show call (f.val F) (valsOf args F) S = call (f.val F') (valsOf args F') S; rw [val_congr h.left, vals_congr h.right]
  | inv tbl f args => show invV (f.val F) tbl (valsOf args F) call S = invV (f.val F') tbl (valsOf args F') call S; rw [val_congr h.left, vals_congr h.right]
  | app t s b x y => show appendV b s (x.val F) (y.val F) S = appendV b s (x.val F') (y.val F') S; rw [val_congr h.left, val_congr h.right]
  | copy s d x => show (osel (lenOfV (x.val F)) fun m => copyV (d.val F) s m (x.val F) S) = osel (lenOfV (x.val F')) fun m => copyV (d.val F') s m (x.val F') S; rw [val_congr h.left, val_congr h.right]
  | mapUpd e m k v => show mapUpdV (m.val F) e (k.val F) (v.val F) S = mapUpdV (m.val F') e (k.val F') (v.val F') S; rw [val_congr h.left, val_congr h.right.left, val_congr h.right.right]
  | mapDel e m k => show mapDelV (m.val F) e (k.val F) S = mapDelV (m.val F') e (k.val F') S; rw [val_congr h.left, val_congr h.right]
  | clr z x => show clrV (x.val F) z S = clrV (x.val F') z S; rw [val_congr h]
  | ext k args => show (osel (extV k (valsOf args F)) fun v => some (v, S)) = osel (extV k (valsOf args F')) fun v => some (v, S); rw [vals_congr h]
  | bad => rfl

theorem wants_congr {g : Option (Nat × Bool)} {F F' : Fr} (h : Agree (g.map (·.1)).toList F F') : wants g F = wants g F' := by
  cases g with
  | none => rfl
  | some p => show isB (tmpV p.1 F) p.2 = isB (tmpV p.1 F') p.2; rw [h p.1 (by simp)]

/-! ## The check -/
theorem inL_iff {t : Nat} : ∀ {l : List Nat}, inL t l = true ↔ t ∈ l
  | [] => by simp [inL]
  | u :: l => by
    simp only [inL, Bool.cond_eq_ite, List.mem_cons]
    split
    · rename_i h; rw [Nat.beq_eq] at h; simp [h]
    · rename_i h; rw [Nat.beq_eq] at h; simp [h, inL_iff]
theorem meets_of {d : Option Nat} {t : Nat} {l : List Nat} (h : d = some t) (ht : t ∈ l) : meets d l = true := by subst h; exact inL_iff.2 ht

theorem drwOne_get {i : Nat} {d : Option Nat} {tch : List Nat} : ∀ {l : List AO}, drwOne i d tch l = true → ∀ {j : Nat} {b : AO}, l[j]? = some b → (meets d b.touch || meets b.dst tch) = true → Nat.testBit b.mask i = true
  | [], _, j, b, hb => by simp at hb
  | a :: l, h, j, b, hb => by
    intro hm
    simp only [drwOne, Bool.and_eq_true] at h
    cases j with
    | zero =>
      simp at hb; subst hb
      have h1 := h.1
      rw [hm] at h1
      exact h1
    | succ j => exact drwOne_get h.2 (by simpa using hb) hm
theorem drwGo_get : ∀ {l : List AO} {k : Nat}, drwGo k l = true → ∀ {i j : Nat} {a b : AO}, i < j → l[i]? = some a → l[j]? = some b → (meets a.dst b.touch || meets b.dst a.touch) = true → Nat.testBit b.mask (k + i) = true
  | [], k, _, i, j, a, b, _, ha => by simp at ha
  | c :: l, k, h, i, j, a, b, hij, ha => by
    intro hb hm
    simp only [drwGo, Bool.and_eq_true] at h
    cases j with
    | zero => omega
    | succ j =>
      cases i with
      | zero =>
        simp at ha; subst ha
        exact drwOne_get h.1 (by simpa using hb) hm
      | succ i =>
        have := drwGo_get h.2 (i := i) (j := j) (by omega) (by simpa using ha) (by simpa using hb) hm
        rwa [show k + 1 + i = k + (i + 1) by omega] at this
theorem edgesGo_get : ∀ {l : List Oper} {k : Nat}, edgesGo k l = true → ∀ {i : Nat} {o : Oper}, l[i]? = some o → ∀ e ∈ o.after, Region.binds .any e = true → e.on < k + i
  | [], k, _, i, o, ho => by simp at ho
  | c :: l, k, h, i, o, ho => by
    intro e he hb
    simp only [edgesGo, Bool.and_eq_true] at h
    cases i with
    | zero =>
      simp at ho; subst ho
      have h1 := Array.all_eq_true'.1 h.1 e he
      simp only [hb, Bool.not_true, Bool.false_or] at h1
      exact Nat.le_of_ble_eq_true h1
    | succ i =>
      have := edgesGo_get h.2 (by simpa using ho) e he hb
      omega
end Go.Ev
