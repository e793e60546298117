/- Contracts of the program's functions on natural numbers in limbs (1). -/
import Derived.Test.YtoojnpjgnnpllaaGl0
import Derived.Test.YtoojnpjgnnpllaaIr0
import Derived.Test.YtoojnpjgnnpllaaIr1
import Derived.Test.YtoojnpjgnnpllaaIr2
import Derived.Test.YtoojnpjgnnpllaaIr3
set_option maxHeartbeats 4000000
set_option linter.unusedSimpArgs false
set_option linter.unusedVariables false
namespace Go.Ev.Gl
/-- the table holds these functions -/
structure Has (fns : T AFn) : Prop where
  f6 : fns.get 6 = some a6
  f19 : fns.get 19 = some a19
  f30 : fns.get 30 = some a30
  f31 : fns.get 31 = some a31
  f33 : fns.get 33 = some a33
  f34 : fns.get 34 = some a34
  f35 : fns.get 35 = some a35
  f36 : fns.get 36 = some a36
  f53 : fns.get 53 = some a53
  f79 : fns.get 79 = some a79
  f80 : fns.get 80 = some a80
  f81 : fns.get 81 = some a81
  f82 : fns.get 82 = some a82
  f83 : fns.get 83 = some a83
  f84 : fns.get 84 = some a84
  f85 : fns.get 85 = some a85
  f87 : fns.get 87 = some a87
  f102 : fns.get 102 = some a102
  f103 : fns.get 103 = some a103
  f104 : fns.get 104 = some a104
  f122 : fns.get 122 = some a122
  f123 : fns.get 123 = some a123
  f124 : fns.get 124 = some a124
  f125 : fns.get 125 = some a125
  f126 : fns.get 126 = some a126
  f127 : fns.get 127 = some a127
  f131 : fns.get 131 = some a131
  f134 : fns.get 134 = some a134
  f160 : fns.get 160 = some a160
  f161 : fns.get 161 = some a161
  f162 : fns.get 162 = some a162
  f163 : fns.get 163 = some a163
  f164 : fns.get 164 = some a164
  f165 : fns.get 165 = some a165
  f172 : fns.get 172 = some a172
  f173 : fns.get 173 = some a173
  f174 : fns.get 174 = some a174
  f175 : fns.get 175 = some a175
  f176 : fns.get 176 = some a176
  f177 : fns.get 177 = some a177
  f180 : fns.get 180 = some a180
  f181 : fns.get 181 = some a181
  f182 : fns.get 182 = some a182
  f183 : fns.get 183 = some a183
  f184 : fns.get 184 = some a184
  f185 : fns.get 185 = some a185
  f186 : fns.get 186 = some a186
  f203 : fns.get 203 = some a203
  f204 : fns.get 204 = some a204
  f205 : fns.get 205 = some a205
  f206 : fns.get 206 = some a206
  f207 : fns.get 207 = some a207
  f209 : fns.get 209 = some a209
end Go.Ev.Gl
namespace Go.Ev.Gl
variable {fns : T AFn}

end Go.Ev.Gl

namespace Go.Ev.Gl
variable {fns : T AFn}

end Go.Ev.Gl

namespace Go.Ev.Gl
variable {fns : T AFn}

/-! ## A slice of one's own -/
def cells32 (l : List Nat) : List AV := l.map fun x => AV.int .u32 ((x : Nat) : Int)
theorem cells32_length (l : List Nat) : (cells32 l).length = l.length := by simp [cells32]
theorem repeatL_one {α : Type} (z : α) : ∀ n, repeatL [z] n = List.replicate n z
  | 0 => rfl
  | n + 1 => by rw [repeatL_succ, repeatL_one z n, List.replicate_succ]; rfl
theorem evA_mk {t s bytes : Nat} {z : List AV} {l c : Opd} {F : Fr} {id n : Nat} (hl : natOf (l.val F) = some n) (hc : natOf (c.val F) = some n) (h1 : n ≤ room) (h2 : bytes * n ≤ room) :
    evA (.mkSlice t s bytes z l c) F id = some (.sl id 0 n n false, .cells (repeatL z n) false 0) := by
  show (osel (natOf (l.val F)) fun l => osel (natOf (c.val F)) fun c => bsel (Nat.ble l c) (bsel (Nat.ble c room) (bsel (Nat.ble (bytes * c) room) (some (AV.sl id 0 l c false, AB.cells (repeatL z c) false 0)) none) none) none) = _
  rw [hl, osel_some, hc, osel_some, Nat.ble_eq_true_of_le (Nat.le_refl n), Nat.ble_eq_true_of_le h1, Nat.ble_eq_true_of_le h2]
  rfl

theorem limbs_own {S : St} {b n : Nat} {l : List Nat} {o o' : Bool} {sz cap : Nat} (h : S.h.get b = some (.cells (cells32 l) o sz)) (hb : b < S.nx) (hn : n = l.length) (hc : n ≤ cap) : LimbIs S (.sl b 0 n cap o') l := by
  subst hn
  refine .inr ⟨b, 0, cap, o', cells32 l, by simp, by simpa using hc, hb, by simp [cellsAt, h, cellsOfB], fun i x hx => ?_⟩
  rw [Nat.zero_add]
  rw [List.getElem?_map, Option.map_eq_some_iff] at hx
  obtain ⟨y, hy, rfl⟩ := hx
  simp [cells32, hy]

/-! ## Sub -/
end Go.Ev.Gl

namespace Go.Ev.Gl
variable {fns : T AFn}

end Go.Ev.Gl

namespace Go.Ev.Gl
variable {fns : T AFn}

/-! ## append, one by one -/
theorem evX_app (t size bytes : Nat) (s x : Opd) (call : CallF) (F : Fr) (S : St) : evX (.app t size bytes s x) call F S = appendV bytes size (s.val F) (x.val F) S := rfl
theorem evA_one {t : Nat} {z : AV} {x : Opd} {F : Fr} {id : Nat} {k : IntKind} {n : Int} (hx : x.val F = .int k n) : evA (.bslice t 1 1 [z] [(0, x)]) F id = some (.sl id 0 1 1 false, .cells [.int k n] false 0) := by
  show (osel (fillP (repeatL [z] 1) [(0 * 1, 1, x.val F)]) fun cs => some (AV.sl id 0 1 1 false, AB.cells cs false 0)) = _
  rw [hx]
  rfl
attribute [simp] evX_app

theorem limbs_part {S : St} {b cap : Nat} {d e : List Nat} {o o' : Bool} {sz : Nat} (h : S.h.get b = some (.cells (cells32 (d ++ e)) o sz)) (hb : b < S.nx) (hc : d.length ≤ cap) : LimbIs S (.sl b 0 d.length cap o') d := by
  refine .inr ⟨b, 0, cap, o', cells32 (d ++ e), by simp, by simpa using hc, hb, by simp [cellsAt, h, cellsOfB], fun i x hx => ?_⟩
  rw [Nat.zero_add]
  rw [List.getElem?_map, Option.map_eq_some_iff] at hx
  obtain ⟨y, hy, rfl⟩ := hx
  have hi := (List.getElem?_eq_some_iff.1 hy).1
  unfold cells32
  rw [List.getElem?_map, List.getElem?_append_left hi, hy]
  rfl

end Go.Ev.Gl

namespace Go.Ev.Gl
variable {fns : T AFn}

/-! ## Mul -/
end Go.Ev.Gl

namespace Go.Ev.Gl
variable {fns : T AFn}

end Go.Ev.Gl

namespace Go.Ev.Gl
variable {fns : T AFn}

/-! ## append beyond the room: the block is given up -/
theorem app_grow {S : St} {b t n w : Nat} {d : List Nat} {bytes : Nat} (hb : S.h.get b = some (.cells (cells32 d) true 1)) (ht : S.h.get t = some (.cells [.int .u32 ((w : Nat) : Int)] false 0)) (hn : n = d.length) (h1 : n + 1 ≤ room) (h2 : (n + 1) * bytes ≤ room) :
    appendV bytes 1 (.sl b 0 n n true) (.sl t 0 1 1 false) S = some (.sl S.nx 0 (n + 1) (n + 1) true, ⟨(S.h.set b none).set S.nx (some (.cells (cells32 (d ++ [w])) true 1)), S.nx + 1⟩) := by
  subst hn
  have e1 : srcCells (.sl t 0 1 1 false) S.h 1 1 = some [.int .u32 ((w : Nat) : Int)] := by
    show osel (cellsAt S.h t) (fun cs => cut cs 0 (1 * 1)) = _
    unfold cellsAt
    rw [ht]
    rfl
  show (osel (some 1) fun k => osel (srcCells (.sl t 0 1 1 false) S.h 1 k) fun new => appV (.sl b 0 d.length d.length true) bytes 1 k new S) = _
  rw [osel_some, e1, osel_some]
  show appSl bytes 1 b 0 d.length d.length true 1 [.int .u32 ((w : Nat) : Int)] S = _
  unfold appSl
  have e2 : Nat.ble (d.length + 1) d.length = false := by rw [Bool.eq_false_iff]; intro h; have := Nat.le_of_ble_eq_true h; omega
  rw [e2, bsel_false, Nat.ble_eq_true_of_le h1, bsel_true, Nat.ble_eq_true_of_le h2, bsel_true, hb, osel_some]
  have e3 : cut (cells32 d) 0 (d.length * 1) = some (cells32 d) := by
    unfold cut
    rw [takeL_eq, dropL_eq, List.drop_zero, Nat.mul_one, if_pos (by rw [cells32_length]; exact Nat.le_refl _), List.take_of_length_le (by rw [cells32_length]; exact Nat.le_refl _)]
  have e4 : Nat.beq (0 + d.length * 1) (lenL (cells32 d)) = true := by rw [lenL_eq, cells32_length, Nat.beq_eq]; omega
  simp only [growB, e3, osel_some, bsel_true, Nat.beq_eq, e4]
  have e5 : Nat.beq 1 1 = true := rfl
  rw [e5, bsel_true, appL_eq]
  simp [grown, cells32]
end Go.Ev.Gl

namespace Go.Ev.Gl
variable {fns : T AFn}

/-- a slice that grows from nil, in memory newer than S0's -/
def GrIs (S0 S : St) (v : AV) (d : List Nat) : Prop :=
  (v = .nilsl ∧ d = []) ∨ ∃ b, v = .sl b 0 d.length d.length true ∧ S0.nx ≤ b ∧ b < S.nx ∧ S.h.get b = some (.cells (cells32 d) true 1)

theorem GrIs.limbs {S0 S : St} {v : AV} {d : List Nat} (h : GrIs S0 S v d) : LimbIs S v d := by
  rcases h with ⟨rfl, rfl⟩ | ⟨b, rfl, _, hb, h⟩
  · exact .inl ⟨rfl, .inl rfl⟩
  · exact limbs_own h hb rfl (Nat.le_refl _)

/-- the new element lies in a block of its own, the newest -/
theorem GrIs.app {S0 S : St} {v : AV} {d : List Nat} {w bytes : Nat} (h : GrIs S0 S v d) (hS : Same S0 S) (h1 : d.length + 1 ≤ room) (h2 : (d.length + 1) * bytes ≤ room) :
    ∃ v' S', appendV bytes 1 v (.sl S.nx 0 1 1 false) ⟨S.h.set S.nx (some (.cells [.int .u32 ((w : Nat) : Int)] false 0)), S.nx + 1⟩ = some (v', S') ∧ GrIs S0 S' v' (d ++ [w]) ∧ Same S0 S' := by
  have ht : (S.h.set S.nx (some (AB.cells [AV.int .u32 ((w : Nat) : Int)] false 0))).get S.nx = some (.cells [.int .u32 ((w : Nat) : Int)] false 0) := by rw [T.get_set, if_pos rfl]
  have hS1 : Same S0 ⟨S.h.set S.nx (some (.cells [.int .u32 ((w : Nat) : Int)] false 0)), S.nx + 1⟩ := hS.trans (Same.alloc S _)
  rcases h with ⟨rfl, rfl⟩ | ⟨b, rfl, hb0, hb, h⟩
  · refine ⟨.sl (S.nx + 1) 0 1 1 true, ⟨(S.h.set S.nx (some (.cells [.int .u32 ((w : Nat) : Int)] false 0))).set (S.nx + 1) (some (.cells [.int .u32 ((w : Nat) : Int)] true 1)), S.nx + 1 + 1⟩, ?_, .inr ⟨S.nx + 1, rfl, by have := hS.1; omega, by simp, ?_⟩, hS1.trans (Same.alloc _ _)⟩
    · have e1 : srcCells (.sl S.nx 0 1 1 false) (S.h.set S.nx (some (.cells [.int .u32 ((w : Nat) : Int)] false 0))) 1 1 = some [.int .u32 ((w : Nat) : Int)] := by
        show osel (cellsAt _ S.nx) (fun cs => cut cs 0 (1 * 1)) = _
        unfold cellsAt
        rw [ht]
        rfl
      show (osel (some 1) fun k => osel (srcCells (.sl S.nx 0 1 1 false) (S.h.set S.nx (some (.cells [.int .u32 ((w : Nat) : Int)] false 0))) 1 k) fun new => appV .nilsl bytes 1 k new _) = _
      rw [osel_some, e1, osel_some]
      show appNil bytes 1 1 _ _ = _
      unfold appNil
      have e2 : Nat.beq 1 0 = false := rfl
      simp at h1 h2
      rw [e2, bsel_false, Nat.ble_eq_true_of_le h1, bsel_true, Nat.ble_eq_true_of_le (by omega), bsel_true]
      rfl
    · simp only
      rw [T.get_set, if_pos rfl]
      rfl
  · have hb3 : (S.h.set S.nx (some (AB.cells [AV.int .u32 ((w : Nat) : Int)] false 0))).get b = some (.cells (cells32 d) true 1) := by rw [T.get_set, if_neg (by omega)]; exact h
    have happ := app_grow (S := ⟨S.h.set S.nx (some (.cells [.int .u32 ((w : Nat) : Int)] false 0)), S.nx + 1⟩) (bytes := bytes) hb3 ht rfl h1 h2
    refine ⟨_, _, happ, .inr ⟨S.nx + 1, by simp, by have := hS.1; omega, by simp, ?_⟩, ?_⟩
    · simp only
      rw [T.get_set, if_pos rfl]
    · exact ⟨Nat.le_trans hS.1 (by simp; omega), fun c hc => by
        simp only
        have := hS.1
        rw [T.get_set, if_neg (by omega), T.get_set, if_neg (by omega)]
        exact hS1.2 c hc⟩

end Go.Ev.Gl

namespace Go.Ev.Gl
variable {fns : T AFn}

end Go.Ev.Gl

namespace Go.Ev.Gl
variable {fns : T AFn}

end Go.Ev.Gl

namespace Go.Ev.Gl
variable {fns : T AFn}

end Go.Ev.Gl

namespace Go.Ev.Gl
variable {fns : T AFn}

/-! ## Regions that draw their order, of plain operations alone -/
def runQ : List AO → Fr → T AB → (Fr → Prop) → Prop
  | [], F, _, Q => Q F
  | ⟨d, .q q, g, _⟩ :: l, F, h, Q => if wants g F = true then onSome (evQ q F h) fun v => (isLoad q = true → sameV v v = true) ∧ runQ l (putF d F v) h Q else runQ l (putF d F .undef) h Q
  | _ :: _, _, _, _ => False

theorem runQ_wpd {h : T AB} {base : Nat} {Q : Fr → Prop} : ∀ {ops : List AO} {i : Nat} {D : DS}, D.S.h = h → D.hs = [] → D.ps = [] → loadsOk h [] D.ls = true → runQ ops D.F h Q →
    wpd fns ops i base D fun D' => Q D'.F ∧ D'.S = D.S ∧ D'.ps = [] ∧ D'.hs = [] ∧ loadsOk h [] D'.ls = true
  | [], i, D, h1, h2, h3, h4, hr => by rw [wpd_nil]; exact ⟨hr, rfl, h3, h2, h4⟩
  | ⟨d, .q q, g, m⟩ :: l, i, ⟨F, S, ps, hs, ls⟩, h1, h2, h3, h4, hr => by
    simp only at h1 h2 h3 h4 hr
    subst h2; subst h3
    simp only [runQ] at hr
    have go : ∀ (_ : onSome (evQ q F h) fun v => (isLoad q = true → sameV v v = true) ∧ runQ l (putF d F v) h Q), wpd fns (⟨d, .q q, none, m⟩ :: l) i base ⟨F, S, [], [], ls⟩ fun D' => Q D'.F ∧ D'.S = S ∧ D'.ps = [] ∧ D'.hs = [] ∧ loadsOk h [] D'.ls = true := by
      rintro ⟨v, hv, hs, hr⟩
      rw [wpd_qE]
      subst h1
      refine ⟨v, hv, runQ_wpd rfl rfl rfl ?_ hr⟩
      show loadsOk S.h [] (bsel (isLoad q) (⟨q, F, v, i, m⟩ :: ls) ls) = true
      cases hq : isLoad q with
      | false => exact h4
      | true =>
        rw [bsel_true, loadsOk_cons, loadGo_nil]
        show bsel (sameO v (evQ q F S.h)) _ _ = true
        rw [hv, sameO_some, hs hq, bsel_true]
        exact h4
    cases g with
    | none => exact go (by rw [if_pos (show wants none F = true from rfl)] at hr; exact hr)
    | some g =>
      obtain ⟨s, b⟩ := g
      by_cases hw : wants (some (s, b)) F = true
      · rw [if_pos hw] at hr
        obtain ⟨n, D', e1, e2⟩ := go hr
        refine ⟨n, D', ?_, e2⟩
        have : evD ⟨d, .q q, some (s, b), m⟩ i base (ev fns n).call ⟨F, S, [], [], ls⟩ = evD ⟨d, .q q, none, m⟩ i base (ev fns n).call ⟨F, S, [], [], ls⟩ := by
          show bsel (wants (some (s, b)) F) _ _ = bsel true _ _
          rw [hw]; rfl
        show osel (evD ⟨d, .q q, some (s, b), m⟩ i base (ev fns n).call ⟨F, S, [], [], ls⟩) _ = _
        rw [this]; exact e1
      · rw [if_neg hw] at hr
        obtain ⟨n, D', e1, e2⟩ := runQ_wpd (i := i + 1) (D := ⟨putF d F .undef, S, [], [], ls⟩) h1 rfl rfl h4 hr
        refine ⟨n, D', ?_, e2⟩
        have : evD ⟨d, .q q, some (s, b), m⟩ i base (ev fns n).call ⟨F, S, [], [], ls⟩ = some ⟨putF d F .undef, S, [], [], ls⟩ := by
          show bsel (wants (some (s, b)) F) _ _ = _
          rw [show wants (some (s, b)) F = false by simpa using hw]; rfl
        show osel (evD ⟨d, .q q, some (s, b), m⟩ i base (ev fns n).call ⟨F, S, [], [], ls⟩) _ = _
        rw [this]; exact e1
  | ⟨d, .a a, g, m⟩ :: l, i, D, h1, h2, h3, h4, hr => by cases hr
  | ⟨d, .x a, g, m⟩ :: l, i, D, h1, h2, h3, h4, hr => by cases hr

theorem wpc_drq {ops : List AO} {A : Act'} {S : St} {Q : Out → Act' → St → Prop} (h : runQ ops A.F S.h fun F => Q .normal ⟨F, A.inr⟩ ⟨S.h, S.nx + ops.length⟩) : wpc fns (.drw ops) A S Q := by
  refine wpc_drw ?_
  obtain ⟨n, D', e1, e2, e3, e4, e5, e6⟩ := runQ_wpd (fns := fns) (base := S.nx) (i := 0) (D := ⟨A.F, ⟨S.h, S.nx + ops.length⟩, [], [], []⟩) rfl rfl rfl rfl h
  refine ⟨n, D', e1, ?_, ?_⟩
  · rw [e5]; exact e6
  · rw [e4, flush_nil, e3]; exact e2

theorem runQ_nil {F : Fr} {h : T AB} {Q : Fr → Prop} : runQ [] F h Q ↔ Q F := Iff.rfl
theorem runQ_q {d : Option Nat} {q : QOp} {m : Nat} {l : List AO} {F : Fr} {h : T AB} {Q : Fr → Prop} : runQ (⟨d, .q q, none, m⟩ :: l) F h Q ↔ onSome (evQ q F h) fun v => (isLoad q = true → sameV v v = true) ∧ runQ l (putF d F v) h Q := by
  show (if wants none F = true then _ else _) ↔ _
  rw [if_pos (show wants none F = true from rfl)]
theorem runQ_g {d : Option Nat} {q : QOp} {s : Nat} {b : Bool} {m : Nat} {l : List AO} {F : Fr} {h : T AB} {Q : Fr → Prop} : runQ (⟨d, .q q, some (s, b), m⟩ :: l) F h Q ↔ if isB (tmpV s F) b = true then runQ (⟨d, .q q, none, m⟩ :: l) F h Q else runQ l (putF d F .undef) h Q := by
  show (if wants (some (s, b)) F = true then _ else _) ↔ _
  rw [show wants (some (s, b)) F = isB (tmpV s F) b from rfl]
  split
  · rw [runQ_q]
  · rfl
theorem beq_tt : (true == true) = true := rfl
theorem beq_ff : (false == false) = true := rfl
theorem beq_tf : (true == false) = false := rfl
theorem beq_ft : (false == true) = false := rfl
theorem isB_undef (b : Bool) : isB .undef b = false := rfl
theorem isLoad_slc (k : SlK) (x : Opd) (a b c : Option Opd) : isLoad (.slc k x a b c) = false := rfl
theorem isLoad_extract (x : Opd) (i : Nat) : isLoad (.extract x i) = false := rfl
theorem isLoad_pick (c a b : Opd) : isLoad (.pick c a b) = false := rfl
theorem isLoad_fld (g : Bool) (o n : Nat) (x : Opd) : isLoad (.fld g o n x) = false := rfl
theorem isLoad_un (op : UnOp) (x : Opd) : isLoad (.un op x) = false := rfl
attribute [simp] runQ_nil runQ_q runQ_g isB_undef isLoad_slc isLoad_extract isLoad_pick isLoad_fld isLoad_un

/-! ## The rules without binders -/
def contQ (x : Option AV) (ld : Bool) (d : Option Nat) (l : List AO) (F : Fr) (h : T AB) (Q : Fr → Prop) : Prop := onSome x fun v => (ld = true → sameV v v = true) ∧ runQ l (putF d F v) h Q
theorem contQ_some {v : AV} {ld : Bool} {d : Option Nat} {l : List AO} {F : Fr} {h : T AB} {Q : Fr → Prop} : contQ (some v) ld d l F h Q ↔ (ld = true → sameV v v = true) ∧ runQ l (putF d F v) h Q := by unfold contQ; rw [onSome_some]
theorem runQ_c {d : Option Nat} {q : QOp} {m : Nat} {l : List AO} {F : Fr} {h : T AB} {Q : Fr → Prop} : runQ (⟨d, .q q, none, m⟩ :: l) F h Q ↔ contQ (evQ q F h) (isLoad q) d l F h Q := runQ_q
def contO (fns : T AFn) (x : Option AV) (d : Option Nat) (l : List AO) (F : Fr) (S : St) (Q : Fr → St → Prop) : Prop := onSome x fun v => wpo fns l (putF d F v) S Q
theorem contO_some {v : AV} {d : Option Nat} {l : List AO} {F : Fr} {S : St} {Q : Fr → St → Prop} : contO fns (some v) d l F S Q ↔ wpo fns l (putF d F v) S Q := by unfold contO; rw [onSome_some]
theorem wpo_c {d : Option Nat} {q : QOp} {m : Nat} {l : List AO} {F : Fr} {S : St} {Q : Fr → St → Prop} : wpo fns (⟨d, .q q, none, m⟩ :: l) F S Q ↔ contO fns (evQ q F S.h) d l F S Q := wpo_qE

/-! ## All but one block is as it was -/
def SameBut (b : Nat) (S S' : St) : Prop := S.nx ≤ S'.nx ∧ ∀ c, c < S.nx → c ≠ b → S'.h.get c = S.h.get c
theorem SameBut.refl (b : Nat) (S : St) : SameBut b S S := ⟨Nat.le_refl _, fun _ _ _ => rfl⟩
theorem SameBut.nx {b : Nat} {S S' : St} (h : SameBut b S S') (k : Nat) : SameBut b S ⟨S'.h, S'.nx + k⟩ := ⟨Nat.le_trans h.1 (Nat.le_add_right _ _), h.2⟩
theorem SameBut.put {b : Nat} {S S' : St} (h : SameBut b S S') (x : Option AB) : SameBut b S ⟨S'.h.set b x, S'.nx⟩ := ⟨h.1, fun c hc hne => by simp only; rw [T.get_set, if_neg hne]; exact h.2 c hc hne⟩
theorem SameBut.trans {b : Nat} {S S' S'' : St} (h : SameBut b S S') (h' : SameBut b S' S'') : SameBut b S S'' := ⟨Nat.le_trans h.1 h'.1, fun c hc hne => (h'.2 c (Nat.lt_of_lt_of_le hc h.1) hne).trans (h.2 c hc hne)⟩
theorem SameBut.same {b : Nat} {S0 S S' : St} (h0 : Same S0 S) (h : SameBut b S S') (hb : S0.nx ≤ b) : Same S0 S' := ⟨Nat.le_trans h0.1 h.1, fun c hc => (h.2 c (Nat.lt_of_lt_of_le hc h0.1) (by omega)).trans (h0.2 c hc)⟩
theorem Same.nx (S : St) (k : Nat) : Same S ⟨S.h, S.nx + k⟩ := ⟨Nat.le_add_right _ _, fun _ _ => rfl⟩

/-! ## A window of a list -/
/-- the rules of a step, joined -/
theorem stU : type_of% (And.intro @wpo_c (And.intro @wpo_gE (And.intro @wpo_nil (And.intro @thenQ_normal (And.intro @thenQ_ret (And.intro @thenQ_exit (And.intro @blockQ_normal (And.intro @blockQ_ret (And.intro @blockQ_exit (And.intro @roundQ_normal (And.intro @roundQ_ret (And.intro @roundQ_exit (And.intro @retQ_ret (And.intro @runQ_nil (And.intro @runQ_c (@runQ_g)))))))))))))))) := And.intro @wpo_c (And.intro @wpo_gE (And.intro @wpo_nil (And.intro @thenQ_normal (And.intro @thenQ_ret (And.intro @thenQ_exit (And.intro @blockQ_normal (And.intro @blockQ_ret (And.intro @blockQ_exit (And.intro @roundQ_normal (And.intro @roundQ_ret (And.intro @roundQ_exit (And.intro @retQ_ret (And.intro @runQ_nil (And.intro @runQ_c (@runQ_g)))))))))))))))
theorem stD : type_of% (And.intro @contO_some (And.intro @onSome_some (And.intro @evQ_mv (And.intro @evQ_conv (And.intro @evQ_bin (And.intro @evQ_un (And.intro @evQ_iaddr (And.intro @evQ_ld (And.intro @evQ_lenSl (And.intro @evQ_extract (And.intro @evQ_fld (And.intro @evQ_pick (And.intro @qPick_bool (And.intro @evQ_slc (And.intro @val_t (And.intro @val_c (And.intro @tmpV_putF (And.intro @putF_none (And.intro @conv_int (And.intro @bin_mul (And.intro @bin_add (And.intro @bin_sub (And.intro @bin_lss (And.intro @bin_leq (And.intro @bin_gtr (And.intro @bin_geq (And.intro @bin_eql (And.intro @bin_neq (And.intro @natOf_cast (And.intro @osel_some (And.intro @results_t (And.intro @results_nil (And.intro @oneOf_one (And.intro @oneOf_two (And.intro @valsOf_nil (And.intro @valsOf_cons (And.intro @argsIn_nil (And.intro @argsIn_cons (And.intro @contQ_some (And.intro @isB_bool (And.intro @isB_undef (And.intro @beq_tt (And.intro @beq_ff (And.intro @beq_tf (And.intro @beq_ft (And.intro @isLoad_mv (And.intro @isLoad_bin (And.intro @isLoad_iaddr (And.intro @isLoad_ld (And.intro @isLoad_lenSl (And.intro @isLoad_int (And.intro @isLoad_slc (And.intro @isLoad_extract (And.intro @isLoad_pick (And.intro @isLoad_fld (And.intro @isLoad_un (And.intro @same_int (And.intro @same_bool (And.intro @same_ptr (And.intro @same_sl (And.intro @same_nilsl (And.intro @Bool.false_eq_true (And.intro @false_implies (And.intro @true_implies (And.intro @true_and (And.intro @and_true (And.intro @Int.ofNat_eq_natCast (And.intro @Int.cast_ofNat_Int (And.intro @Int.natCast_zero (And.intro @Int.natCast_one (And.intro (@bsel_true (T AB)) (And.intro (@bsel_false (T AB)) (And.intro (@bsel_true AV) (And.intro (@bsel_false AV) (And.intro (@List.nil_append AV) (And.intro (@List.cons_append AV) (And.intro (@List.append_nil AV) (And.intro (@List.nil_append Nat) (And.intro (@List.cons_append Nat) (@List.append_nil Nat)))))))))))))))))))))))))))))))))))))))))))))))))))))))))))))))))))))))))))))))) := And.intro @contO_some (And.intro @onSome_some (And.intro @evQ_mv (And.intro @evQ_conv (And.intro @evQ_bin (And.intro @evQ_un (And.intro @evQ_iaddr (And.intro @evQ_ld (And.intro @evQ_lenSl (And.intro @evQ_extract (And.intro @evQ_fld (And.intro @evQ_pick (And.intro @qPick_bool (And.intro @evQ_slc (And.intro @val_t (And.intro @val_c (And.intro @tmpV_putF (And.intro @putF_none (And.intro @conv_int (And.intro @bin_mul (And.intro @bin_add (And.intro @bin_sub (And.intro @bin_lss (And.intro @bin_leq (And.intro @bin_gtr (And.intro @bin_geq (And.intro @bin_eql (And.intro @bin_neq (And.intro @natOf_cast (And.intro @osel_some (And.intro @results_t (And.intro @results_nil (And.intro @oneOf_one (And.intro @oneOf_two (And.intro @valsOf_nil (And.intro @valsOf_cons (And.intro @argsIn_nil (And.intro @argsIn_cons (And.intro @contQ_some (And.intro @isB_bool (And.intro @isB_undef (And.intro @beq_tt (And.intro @beq_ff (And.intro @beq_tf (And.intro @beq_ft (And.intro @isLoad_mv (And.intro @isLoad_bin (And.intro @isLoad_iaddr (And.intro @isLoad_ld (And.intro @isLoad_lenSl (And.intro @isLoad_int (And.intro @isLoad_slc (And.intro @isLoad_extract (And.intro @isLoad_pick (And.intro @isLoad_fld (And.intro @isLoad_un (And.intro @same_int (And.intro @same_bool (And.intro @same_ptr (And.intro @same_sl (And.intro @same_nilsl (And.intro @Bool.false_eq_true (And.intro @false_implies (And.intro @true_implies (And.intro @true_and (And.intro @and_true (And.intro @Int.ofNat_eq_natCast (And.intro @Int.cast_ofNat_Int (And.intro @Int.natCast_zero (And.intro @Int.natCast_one (And.intro (@bsel_true (T AB)) (And.intro (@bsel_false (T AB)) (And.intro (@bsel_true AV) (And.intro (@bsel_false AV) (And.intro (@List.nil_append AV) (And.intro (@List.cons_append AV) (And.intro (@List.append_nil AV) (And.intro (@List.nil_append Nat) (And.intro (@List.cons_append Nat) (@List.append_nil Nat)))))))))))))))))))))))))))))))))))))))))))))))))))))))))))))))))))))))))))))))
end Go.Ev.Gl

namespace Go.Ev.Gl
variable {fns : T AFn}

end Go.Ev.Gl

namespace Go.Ev.Gl
variable {fns : T AFn}

theorem ex0 (a : AV) (l : List AV) : extractV (.tup (a :: l)) 0 = some a := rfl
theorem ex1 (a b : AV) (l : List AV) : extractV (.tup (a :: b :: l)) 1 = some b := rfl
end Go.Ev.Gl

namespace Go.Ev.Gl
variable {fns : T AFn}

/-! ## The tables that the program lays -/
/-! ## Bits -/
end Go.Ev.Gl
