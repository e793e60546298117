/-
  'RatBack' returns true whatever it is handed, where the package-level tables that it reads hold what the program's text lays. The run is shown in the evaluator (texts Gl), whose soundness is proved in the texts Ev; the call of awake is known by its own run. The row's condition is its list of tables; the card ties them to the text.
-/
import Derived.Test.YtmbmidkdinllgaaDoorCards
import Derived.Test.YtmbmidkdinllgaaDoorTie
import Derived.Test.YtmbmidkdinllgaaDoorRatBackFns
import Derived.WalkKit
import Derived.ProofKit
import Derived.OpenShut
import Derived.Carry
import Derived.ChangeSlices
import Derived.Deep.DeepHandedRow
import Derived.Lib.LaidTab
import Derived.Stop.LaidErr
import Derived.ChangeStays
import Derived.ChangeArms
import Derived.ReadAgain
namespace Go.Proofs.YtmbmidkdinllgaaDoor.ratBack
open Go.ChangeShapes Go.WideShapes Go.ChangeAt Go.RowKit Go.Ev Go.Ev.Gl

theorem own : ownKnob Tryd.prog.godebug = none := by kernel_rfl
theorem glob0 : Tryd.prog.globalNamed "math/bits.deBruijn64tab" = some 2 := by kernel_rfl
theorem type0 : (Tryd.prog.globals[2]?).map (·.type) = some 136 := by kernel_rfl
theorem cells0 : Tryd.prog.cellsOf 136 = 64 := by kernel_rfl
theorem elem0 : Tryd.prog.cellsOf 5 = 1 := by kernel_rfl
def nums0 : List Int := [0, 1, 56, 2, 57, 49, 28, 3, 61, 58, 42, 50, 38, 29, 17, 4, 62, 47, 59, 36, 45, 43, 51, 22, 53, 39, 33, 30, 24, 18, 12, 5, 63, 55, 48, 27, 60, 41, 37, 16, 46, 35, 44, 21, 52, 32, 23, 11, 54, 26, 40, 15, 34, 20, 31, 10, 25, 14, 19, 9, 13, 8, 7, 6]
theorem glob1 : Tryd.prog.globalNamed "parlour/nat.digits" = some 1 := by kernel_rfl
theorem type1 : (Tryd.prog.globals[1]?).map (·.type) = some 120 := by kernel_rfl
theorem cells1 : Tryd.prog.cellsOf 120 = 10 := by kernel_rfl
theorem elem1 : Tryd.prog.cellsOf 5 = 1 := by kernel_rfl
def nums1 : List Int := [48, 49, 50, 51, 52, 53, 54, 55, 56, 57]
theorem glob2 : Tryd.prog.globalNamed "parlour/rat.values" = some 0 := by kernel_rfl
theorem type2 : (Tryd.prog.globals[0]?).map (·.type) = some 73 := by kernel_rfl
theorem cells2 : Tryd.prog.cellsOf 73 = 3 := by kernel_rfl
theorem elem2 : Tryd.prog.cellsOf 3 = 1 := by kernel_rfl
def nums2 : List Int := [(-1), 0, 1]

/-- WHAT THE ROW's LIST GIVES. -/
theorem table {W : World} (h : laidMetH Tryd.prog Rows.ratBackRow.laid W) : Tabs Tryd.prog awake.tabs W := by
  have h0 : laidMet Tryd.prog [("math/bits.deBruijn64tab", Lib.tabData .u8 nums0), ("parlour/nat.digits", Lib.tabData .u8 nums1), ("parlour/rat.values", Lib.tabData .i64 nums2)] W := h
  have t0 : Lib.TabIs Tryd.prog W "math/bits.deBruijn64tab" .u8 nums0 := Lib.tabIs_of_head glob0 type0 Tryd.underlying136 Tryd.underlying5 elem0 cells0 h0
  have t1 : Lib.TabIs Tryd.prog W "parlour/nat.digits" .u8 nums1 := Lib.tabIs_of_head glob1 type1 Tryd.underlying120 Tryd.underlying5 elem1 cells1 h0.tail
  have t2 : Lib.TabIs Tryd.prog W "parlour/rat.values" .i64 nums2 := Lib.tabIs_of_head glob2 type2 Tryd.underlying73 Tryd.underlying3 elem2 cells2 h0.tail.tail
  exact (tabs_cons glob0 (of_decide_eq_true (by kernel_rfl)) t0 (by kernel_rfl) (by decide) (tabs_cons glob1 (of_decide_eq_true (by kernel_rfl)) t1 (by kernel_rfl) (by decide) (tabs_cons glob2 (of_decide_eq_true (by kernel_rfl)) t2 (by kernel_rfl) (by decide) tabs_nil)))

theorem elem32 : Tryd.prog.cellsOf 41 = 1 := by kernel_rfl
theorem laidOut : laidOutB Tryd.prog = true := by kernel_rfl
theorem rowed : mapsRowed Tryd.prog = true := by kernel_rfl
theorem nats : ∀ {zs : List Int}, (∀ z ∈ zs, (Lit.int .u32 z).wf = true) → ∃ l : List Nat, zs = l.map Int.ofNat
  | [], _ => ⟨[], rfl⟩
  | z :: zs, h => by
    obtain ⟨l, rfl⟩ := nats (zs := zs) fun y hy => h y (List.mem_cons_of_mem _ hy)
    have hz := h z (List.mem_cons_self ..)
    simp [Lit.wf, IntKind.min, IntKind.max, IntKind.signed, IntKind.bits] at hz
    exact ⟨z.toNat :: l, by simp only [List.map_cons, Int.ofNat_eq_natCast]; rw [Int.toNat_of_nonneg hz.1]⟩
/-- what was read reads the same where all is kept -/
theorem shutAll {H : Type} {enc : TypeId × Value → H} {W W' : World} {sp : Nat → Bool} (hk : Kept W W') : ∀ {ts : List TypeId} {vs : List Value} {ds : List (DataW H)} {ps : List MemPlace}, (∀ t ∈ ts, t < Tryd.prog.types.size) → DataW.TrodAll enc Tryd.prog W 0 (fun _ => true) true ts vs ds ps → (∀ q ∈ ps, sp q.block = true) → DataW.TrodAll enc Tryd.prog W' 0 sp true ts vs ds ps
  | [], [], [], _, _, h, _ => h
  | t :: ts, v :: vs, d :: ds, _, ht, ⟨p, q, ⟨fuel, h1⟩, h2, rfl⟩, hs => by
    refine ⟨p, q, ⟨fuel, DataW.trod_stays (T := (· < Tryd.prog.types.size)) (kids_rows laidOut rowed) (fun h1 h2 => slices_full_of Tryd.prog (by kernel_rfl) _ _ h1 h2) (fun h => by cases h) (ht t (List.mem_cons_self ..)) h1 (fun x hx => ?_) (fun x hx => hs x (List.mem_append_left _ hx))⟩, shutAll hk (fun u hu => ht u (List.mem_cons_of_mem _ hu)) h2 (fun x hx => hs x (List.mem_append_right _ hx)), rfl⟩
    have hlt := DataW.trod_lt _ _ _ _ h1 x hx
    cases x with
    | cell b off =>
      show W'.cell? ⟨b, off, none⟩ = W.cell? ⟨b, off, none⟩
      unfold World.cell?
      rw [hk.heap b hlt]
    | map b => exact hk.heap b hlt

set_option maxRecDepth 100000 in
theorem contract (H : Type) (enc : TypeId × Value → H) (W : World) (base : Nat) (args : Array Value) (ds gs : List (DataW H)) (before : List MemPlace)
    (hval : ∀ (j : Nat) t v, Tryd.f9.params[j]? = some t → args[j]? = some v → Value.okWide Tryd.prog W .any base t v)
    (hW : DataW.Whole enc Tryd.prog Tryd.f9.params.toList Rows.ratBackSpec.vars false W args.toList ds gs before) (hL : laidMetH Tryd.prog Rows.ratBackRow.laid W) :
    Calls Tryd.prog 9 args W fun e W' => ∃ v, e = .returned v ∧ Rows.ratBackSpec.post enc Tryd.prog Tryd.f9 false true false false W args v W' := by
  have hW' := hW
  obtain ⟨p, q, hA0, hV, rfl, hfz, hnd⟩ := hW
  have hA : DataW.TrodAll enc Tryd.prog W 0 (fun _ => true) true Tryd.f9.params.toList args.toList ds p := hA0
  rw [Tryd.params9] at hA hval
  obtain ⟨v0, v1, v2, v3, d0, d1, d2, d3, p0, p1, p2, p3, rfl, rfl, hp, h0, h1, h2, h3⟩ := trodAll_four hA
  obtain ⟨rfl, rfl⟩ := trodVars_none hV
  simp only [List.append_nil] at hW'
  have hT := table hL
  have hgl : ∀ x ∈ awake.tabs, x.1 < Tryd.prog.globals.size := fun x hx => (hT x hx).1
  obtain ⟨f0, e0⟩ := id h0
  obtain ⟨b0, bl0, bc0, rfl⟩ := okWide_slice Tryd.underlying22 (hval 0 22 v0 rfl rfl)
  obtain ⟨σ0, S0, w0, z0, A0, R0, I0, n0, k0⟩ := arg_ints (repL hT) noOwn_L (fresh_L hgl) (Nat.le_refl _) Tryd.underlying22 Tryd.underlying41 elem32 e0
  obtain ⟨l0, rfl⟩ := nats k0
  obtain ⟨f1, e1⟩ := id h1
  obtain ⟨b1, bl1, bc1, rfl⟩ := okWide_slice Tryd.underlying22 (hval 1 22 v1 rfl rfl)
  obtain ⟨σ1, S1, w1, z1, A1, R1, I1, n1, k1⟩ := arg_ints A0.rep A0.no A0.fresh n0 Tryd.underlying22 Tryd.underlying41 elem32 e1
  obtain ⟨l1, rfl⟩ := nats k1
  obtain ⟨n2, ev2, ed2, _⟩ := open_bool Tryd.underlying4 (hval 2 4 v2 rfl rfl) h2
  obtain ⟨n3, ev3, ed3, _, hn3⟩ := open_int Tryd.underlying3 (hval 3 3 v3 rfl rfl) h3
  have n3w := bounds_i64 hn3
  have hrun := runs (n2 := n2) (laidL.same (A0.trans A1).same) (digL.same (A0.trans A1).same) A1.fresh (IsSl.same I0 A1.same) I1 n3w
  have hargs : Rvs Tryd.prog σ1 [w0, w1, .bool n2, .int .i64 n3] [.slice b0 bl0 bc0, .slice b1 bl1 bc1, v2, v3] := Rvs_cons.2 ⟨_, _, rfl, (R0.mono A1.le), Rvs_cons.2 ⟨_, _, rfl, R1, Rvs_cons.2 ⟨_, _, rfl, (by rw [ev2]; simp only [Rv]), Rvs_cons.2 ⟨_, _, rfl, (by rw [ev3]; simp only [Rv]), Rvs_nil.2 rfl⟩⟩⟩⟩
  refine (calls_wpf knows Tryd.func9 (by kernel_rfl) (by kernel_rfl) hrun hargs A1.rep A1.no).mono fun e W' ⟨he, hg⟩ => ?_
  subst he
  refine ⟨_, rfl, post_kept (pa := p) (pv := []) hW' (fun _ _ _ => (trodAll_cons_mk (shut_bool Tryd.underlying4 _) trodAll_mk0)) (fun sp hsp => ?_) (fun _ _ => rfl) (by simp)
    hg (ok_one (by kernel_rfl) rfl (okWide_bool_mk Tryd.underlying4 _))⟩
  show DataW.TrodAll enc Tryd.prog W' 0 sp true Tryd.f9.params.toList _ [d0, d1, d2, d3] _
  rw [Tryd.params9]
  exact shutAll hg (of_decide_eq_true (by kernel_rfl)) hA (fun q hq => hsp q (by simpa using hq))


/-- A WORLD FOR THE WITNESS: the settled one, the tables holding what their initialisers lay. -/
noncomputable def laidWorld (os : Os) : World :=
  { World.holding Tryd.prog os ⟨#[], #[.slice none 0 0, .slice none 0 0, .bool false, .int .i64 0], []⟩ with heap := ((((World.holding Tryd.prog os ⟨#[], #[.slice none 0 0, .slice none 0 0, .bool false, .int .i64 0], []⟩).heap.modify 2 fun
      | .cells _ t frozen => .cells (nums0.map (Value.int .u8)).toArray t frozen
      | o => o).modify 1 fun
      | .cells _ t frozen => .cells (nums1.map (Value.int .u8)).toArray t frozen
      | o => o).modify 0 fun
      | .cells _ t frozen => .cells (nums2.map (Value.int .i64)).toArray t frozen
      | o => o) }
theorem laid_met (os : Os) : laidMet Tryd.prog Rows.ratBackRow.laid ((laidWorld os).forCall (fun _ _ => 0) ⟨#[], #[.slice none 0 0, .slice none 0 0, .bool false, .int .i64 0], []⟩).memory :=
  laidMet_of_run' 8 (by kernel_rfl) (by kernel_rfl)
theorem reads (os : Os) {H : Type} (enc : TypeId × Value → H) : ∃ places, DataW.whole enc Tryd.prog ((laidWorld os).forCall (fun _ _ => 0) ⟨#[], #[.slice none 0 0, .slice none 0 0, .bool false, .int .i64 0], []⟩).memory Tryd.f9.params.toList Rows.ratBackSpec.vars false (#[.slice none 0 0, .slice none 0 0, .bool false, .int .i64 0] : Array Value).toList 8 = some ([.nil, .nil, .lit (.bool false), .lit (.int .i64 0)], [], places) :=
  ⟨[], by kernel_rfl⟩

set_option maxRecDepth 100000 in
theorem lifted (os : Os) (started : os.Started) (H : Type) (enc : TypeId × Value → H) (F : Stop.Interp) :
    ReturnsInHanded {} Tryd.checked os 9 .any ((OpenSpec.ofChange Rows.ratBackSpec).preRow enc Tryd.prog Tryd.f9 Rows.ratBackRow.domain false Rows.ratBackRow.laid) (((OpenSpec.ofChange Rows.ratBackSpec).at F).post enc Tryd.prog Tryd.f9 false true false false) := by
  obtain ⟨places, hx⟩ := reads os enc
  refine returnsInHanded_of_row (C := Tryd.checked) (s := OpenSpec.ofChange Rows.ratBackSpec) own started (by kernel_rfl) Tryd.func9
    (witness_row_at (enc := enc) (C := Tryd.checked) false (laidWorld os) #[.slice none 0 0, .slice none 0 0, .bool false, .int .i64 0] rfl (by kernel_rfl) (by kernel_rfl) (by kernel_rfl)
      (OpenSpec.preRow_of_cond 8 hx (by kernel_rfl) (fun k hk => by cases hk) (by kernel_rfl) (laid_met os))) ?_
  intro W base args ds gs before hval hW _ _ _ hL _ _
  exact contract H enc W base args ds gs before hval hW hL

theorem said : Rows.RatBackSaid :=
  OpenClaim.holds_of_cond 9 Tryd.f9 rfl rfl rfl rfl rfl rfl rfl ⟨rfl, rfl, rfl, rfl, rfl⟩ rfl rfl rfl rfl rfl (by kernel_rfl) Tryd.func9 (by kernel_rfl)
    (of_decide_eq_true (by kernel_rfl)) (by unfold Func.isWrapper; first | (rw [if_pos (by decide +kernel)]; kernel_rfl) | (rw [if_neg (by decide +kernel)]; exact ⟨rfl, rfl⟩))
    (fun os started H enc _ F => by rw [OpenClaim.pre_eq_preRow]; exact lifted os started H enc F)

theorem plain (f : FuncId) (fn : Func) (hf : Tryd.pinned.checked.prog.funcNamed Tryd.f9.name = some f) (hfn : Tryd.pinned.checked.prog.funcs[f]? = some fn) :
    false = Tryd.pinned.checked.prog.looks [] ∧ ∀ (j : Nat) t, fn.params[j]? = some t → Tryd.pinned.checked.prog.wantsStandIn t = false := by
  obtain rfl : f = 9 := Option.some.inj ((show Tryd.prog.funcNamed Tryd.f9.name = some 9 by kernel_rfl).symm.trans hf) |>.symm
  obtain rfl : fn = Tryd.f9 := (Option.some.inj (Tryd.func9.symm.trans hfn)).symm
  refine ⟨by kernel_rfl, fun j t ht => ?_⟩
  rw [Tryd.params9] at ht
  have w4 : Tryd.pinned.checked.prog.wantsStandIn 4 = false := by kernel_rfl
  have w3 : Tryd.pinned.checked.prog.wantsStandIn 3 = false := by kernel_rfl
  have w22 : Tryd.pinned.checked.prog.wantsStandIn 22 = false := by kernel_rfl
  match j, ht with
  | 0, h => cases h; exact w22
  | 1, h => cases h; exact w22
  | 2, h => cases h; exact w4
  | 3, h => cases h; exact w3
  | j + 4, h => simp at h

/-- THE CARD -/
theorem proved : Rows.RatBackCardSaid :=
  Claim7.holds_tied_plain_at .later [] _ _ _ _ said (fun _ h => by cases h) (by kernel_rfl) (fun _ h => by cases h) ratBack_row_tie rfl ⟨rfl, rfl⟩ (by kernel_rfl) rfl plain (by kernel_rfl)
end Go.Proofs.YtmbmidkdinllgaaDoor.ratBack
#print axioms Go.Proofs.YtmbmidkdinllgaaDoor.ratBack.proved
