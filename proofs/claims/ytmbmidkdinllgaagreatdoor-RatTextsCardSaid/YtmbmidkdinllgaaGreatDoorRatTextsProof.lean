/-
  'RatTexts' returns true whatever it is handed, where the package-level tables that it reads hold what the program's text lays. The run is shown in the evaluator (texts Gl), whose soundness is proved in the texts Ev; the call of awake is known by its own run. The row's condition is its list of tables; the card ties them to the text.
-/
import Derived.Test.YtmbmidkdinllgaaGreatDoorCards
import Derived.Test.YtmbmidkdinllgaaGreatDoorTie
import Derived.Test.YtmbmidkdinllgaaGreatDoorRatTextsFns
import Derived.WalkKit
import Derived.ProofKit
import Derived.OpenShut
import Derived.Carry
import Derived.ChangeSlices
import Derived.Deep.DeepHandedRow
import Derived.Lib.LaidTab
import Derived.Stop.LaidErr
import Derived.ChangeStays
import Derived.ChangeArms
import Derived.ReadAgain
import Derived.ChangeMaps5
namespace Go.Proofs.YtmbmidkdinllgaaGreatDoor.ratTexts
open Go.ChangeShapes Go.WideShapes Go.ChangeAt Go.RowKit Go.Ev Go.Ev.Gl

theorem own : ownKnob Tryz.prog.godebug = none := by kernel_rfl
theorem glob0 : Tryz.prog.globalNamed "math/bits.deBruijn64tab" = some 3 := by kernel_rfl
theorem type0 : (Tryz.prog.globals[3]?).map (·.type) = some 120 := by kernel_rfl
theorem cells0 : Tryz.prog.cellsOf 120 = 64 := by kernel_rfl
theorem elem0 : Tryz.prog.cellsOf 5 = 1 := by kernel_rfl
def nums0 : List Int := [0, 1, 56, 2, 57, 49, 28, 3, 61, 58, 42, 50, 38, 29, 17, 4, 62, 47, 59, 36, 45, 43, 51, 22, 53, 39, 33, 30, 24, 18, 12, 5, 63, 55, 48, 27, 60, 41, 37, 16, 46, 35, 44, 21, 52, 32, 23, 11, 54, 26, 40, 15, 34, 20, 31, 10, 25, 14, 19, 9, 13, 8, 7, 6]
theorem glob1 : Tryz.prog.globalNamed "parlour/nat.digits" = some 0 := by kernel_rfl
theorem type1 : (Tryz.prog.globals[0]?).map (·.type) = some 84 := by kernel_rfl
theorem cells1 : Tryz.prog.cellsOf 84 = 10 := by kernel_rfl
theorem elem1 : Tryz.prog.cellsOf 5 = 1 := by kernel_rfl
def nums1 : List Int := [48, 49, 50, 51, 52, 53, 54, 55, 56, 57]
theorem glob2 : Tryz.prog.globalNamed "parlour/rat.values" = some 1 := by kernel_rfl
theorem type2 : (Tryz.prog.globals[1]?).map (·.type) = some 98 := by kernel_rfl
theorem cells2 : Tryz.prog.cellsOf 98 = 3 := by kernel_rfl
theorem elem2 : Tryz.prog.cellsOf 3 = 1 := by kernel_rfl
def nums2 : List Int := [(-1), 0, 1]

/-- WHAT THE ROW's LIST GIVES. -/
theorem table {W : World} (h : laidMetH Tryz.prog Rows.ratTextsRow.laid W) : Tabs Tryz.prog awake.tabs W := by
  have h0 : laidMet Tryz.prog [("math/bits.deBruijn64tab", Lib.tabData .u8 nums0), ("parlour/nat.digits", Lib.tabData .u8 nums1), ("parlour/rat.values", Lib.tabData .i64 nums2)] W := h
  have t0 : Lib.TabIs Tryz.prog W "math/bits.deBruijn64tab" .u8 nums0 := Lib.tabIs_of_head glob0 type0 Tryz.underlying120 Tryz.underlying5 elem0 cells0 h0
  have t1 : Lib.TabIs Tryz.prog W "parlour/nat.digits" .u8 nums1 := Lib.tabIs_of_head glob1 type1 Tryz.underlying84 Tryz.underlying5 elem1 cells1 h0.tail
  have t2 : Lib.TabIs Tryz.prog W "parlour/rat.values" .i64 nums2 := Lib.tabIs_of_head glob2 type2 Tryz.underlying98 Tryz.underlying3 elem2 cells2 h0.tail.tail
  exact (tabs_cons glob0 (of_decide_eq_true (by kernel_rfl)) t0 (by kernel_rfl) (by decide) (tabs_cons glob1 (of_decide_eq_true (by kernel_rfl)) t1 (by kernel_rfl) (by decide) (tabs_cons glob2 (of_decide_eq_true (by kernel_rfl)) t2 (by kernel_rfl) (by decide) tabs_nil)))

theorem elem32 : Tryz.prog.cellsOf 47 = 1 := by kernel_rfl
theorem laidOut : laidOutB Tryz.prog = true := by kernel_rfl
theorem rowed : mapsRowed Tryz.prog = true := by kernel_rfl
theorem nats : ∀ {zs : List Int}, (∀ z ∈ zs, (Lit.int .u32 z).wf = true) → ∃ l : List Nat, zs = l.map Int.ofNat
  | [], _ => ⟨[], rfl⟩
  | z :: zs, h => by
    obtain ⟨l, rfl⟩ := nats (zs := zs) fun y hy => h y (List.mem_cons_of_mem _ hy)
    have hz := h z (List.mem_cons_self ..)
    simp [Lit.wf, IntKind.min, IntKind.max, IntKind.signed, IntKind.bits] at hz
    exact ⟨z.toNat :: l, by simp only [List.map_cons, Int.ofNat_eq_natCast]; rw [Int.toNat_of_nonneg hz.1]⟩
/-- what was read reads the same where all is kept -/
theorem shutAll {H : Type} {enc : TypeId × Value → H} {W W' : World} {sp : Nat → Bool} (hk : Kept W W') : ∀ {ts : List TypeId} {vs : List Value} {ds : List (DataW H)} {ps : List MemPlace}, (∀ t ∈ ts, t < Tryz.prog.types.size) → DataW.TrodAll enc Tryz.prog W 0 (fun _ => true) true ts vs ds ps → (∀ q ∈ ps, sp q.block = true) → DataW.TrodAll enc Tryz.prog W' 0 sp true ts vs ds ps
  | [], [], [], _, _, h, _ => h
  | t :: ts, v :: vs, d :: ds, _, ht, ⟨p, q, ⟨fuel, h1⟩, h2, rfl⟩, hs => by
    refine ⟨p, q, ⟨fuel, DataW.trod_stays (T := (· < Tryz.prog.types.size)) (kids_rows laidOut rowed) (fun h1 h2 => slices_full_of Tryz.prog (by kernel_rfl) _ _ h1 h2) (fun h => by cases h) (ht t (List.mem_cons_self ..)) h1 (fun x hx => ?_) (fun x hx => hs x (List.mem_append_left _ hx))⟩, shutAll hk (fun u hu => ht u (List.mem_cons_of_mem _ hu)) h2 (fun x hx => hs x (List.mem_append_right _ hx)), rfl⟩
    have hlt := DataW.trod_lt _ _ _ _ h1 x hx
    cases x with
    | cell b off =>
      show W'.cell? ⟨b, off, none⟩ = W.cell? ⟨b, off, none⟩
      unfold World.cell?
      rw [hk.heap b hlt]
    | map b => exact hk.heap b hlt

theorem cells_rat : Tryz.prog.cellsOf 25 = 3 := by kernel_rfl
theorem cells_bool : Tryz.prog.cellsOf 4 = 1 := by kernel_rfl
theorem cells_nat : Tryz.prog.cellsOf 23 = 1 := by kernel_rfl
theorem sl_one {σ : Env} {S : St} {a : AV} {v : Value} {l : List Int} (h : IsSl .u32 S a l) (hr : Rv Tryz.prog σ a v) : v.oneCell' = true := by
  rcases h with ⟨_, rfl | rfl⟩ | ⟨b, off, cap, o, cs, rfl, _⟩
  · simp only [Rv] at hr; subst hr; rfl
  · simp only [Rv] at hr; obtain ⟨_, _, rfl⟩ := hr; rfl
  · simp only [Rv] at hr; obtain ⟨_, _, rfl⟩ := hr; rfl
/-- a rational number as an argument -/
theorem arg_rat {H : Type} {enc : TypeId × Value → H} {σ : Env} {S : St} {w : World} {base : Nat} {spare : Nat → Bool} {held : Bool} {fuel : Nat} {v : Value} {x : DataW H × List MemPlace} (hR : Rep Tryz.prog σ S w) (hn : NoOwn S) (hf : Fresh S) (hG : Tryz.prog.globals.size ≤ S.nx) (h : DataW.trod enc Tryz.prog w base spare held fuel 25 v.cells.toList = some x) :
    ∃ σ' S' a s l m, Added Tryz.prog σ S w σ' S' ∧ Rv Tryz.prog σ' a v ∧ RawIs S' a s l m ∧ S.nx ≤ S'.nx := by
  obtain ⟨xs, n, rfl, rfl, hl, hxs, hfs⟩ := DataW.trod_struct Tryz.underlying25 h
  rw [cells_rat] at hl
  obtain ⟨c0, c1, c2, hc⟩ : ∃ c0 c1 c2, v.cells.toList = [c0, c1, c2] := by
    match hv : v.cells.toList, hl with
    | [c0, c1, c2], _ => exact ⟨c0, c1, c2, rfl⟩
  have hva : v = .agg ⟨[c0, c1, c2]⟩ := by
    cases v <;> simp [Value.cells] at hc
    rename_i cs
    cases cs
    simp at hc
    rw [hc]
  rw [hc] at hfs
  have hx3 : xs.length = 3 := hxs
  obtain ⟨y0, y1, y2, rfl⟩ : ∃ y0 y1 y2, xs = [y0, y1, y2] := by
    match xs, hx3 with
    | [y0, y1, y2], _ => exact ⟨y0, y1, y2, rfl⟩
  have k0 : DataW.trod enc Tryz.prog w base spare held n 4 [c0] = some y0 := by have := hfs 0 _ rfl; simpa [cells_bool] using this
  have k1 : DataW.trod enc Tryz.prog w base spare held n 23 [c1] = some y1 := by have := hfs 1 _ rfl; simpa [cells_nat] using this
  have k2 : DataW.trod enc Tryz.prog w base spare held n 23 [c2] = some y2 := by have := hfs 2 _ rfl; simpa [cells_nat] using this
  obtain ⟨s, hs, _⟩ := DataW.trod_bool Tryz.underlying4 k0
  cases hs
  obtain ⟨σ1, S1, w1, z1, A1, R1, I1, n1, f1⟩ := arg_ints hR hn hf hG Tryz.underlying23 Tryz.underlying47 elem32 k1
  obtain ⟨σ2, S2, w2, z2, A2, R2, I2, n2, f2⟩ := arg_ints A1.rep A1.no A1.fresh (Nat.le_trans hG n1) Tryz.underlying23 Tryz.underlying47 elem32 k2
  obtain ⟨l1, rfl⟩ := nats f1
  obtain ⟨l2, rfl⟩ := nats f2
  refine ⟨σ2, S2, .agg [.bool s, w1, w2], s, l1, l2, A1.trans A2, ?_, ⟨w1, w2, rfl, IsSl.same I1 A2.same, I2⟩, Nat.le_trans n1 n2⟩
  rw [hva]
  simp only [Rv]
  refine ⟨_, rfl, Rvs_cons.2 ⟨_, _, rfl, by simp only [Rv], Rvs_cons.2 ⟨_, _, rfl, R1.mono A2.le, Rvs_cons.2 ⟨_, _, rfl, R2, Rvs_nil.2 rfl⟩⟩⟩, fun u hu => ?_⟩
  simp only [List.mem_cons, List.not_mem_nil, or_false] at hu
  rcases hu with rfl | rfl | rfl
  · rfl
  · exact sl_one I1 R1
  · exact sl_one I2 R2

set_option maxRecDepth 100000 in
theorem contract (H : Type) (enc : TypeId × Value → H) (W : World) (base : Nat) (args : Array Value) (ds gs : List (DataW H)) (before : List MemPlace)
    (hval : ∀ (j : Nat) t v, Tryz.f3.params[j]? = some t → args[j]? = some v → Value.okWide Tryz.prog W .any base t v)
    (hW : DataW.Whole enc Tryz.prog Tryz.f3.params.toList Rows.ratTextsSpec.vars false W args.toList ds gs before) (hL : laidMetH Tryz.prog Rows.ratTextsRow.laid W) :
    Calls Tryz.prog 3 args W fun e W' => ∃ v, e = .returned v ∧ Rows.ratTextsSpec.post enc Tryz.prog Tryz.f3 false true false false W args v W' := by
  have hW' := hW
  obtain ⟨p, q, hA0, hV, rfl, hfz, hnd⟩ := hW
  have hA : DataW.TrodAll enc Tryz.prog W 0 (fun _ => true) true Tryz.f3.params.toList args.toList ds p := hA0
  rw [Tryz.params3] at hA hval
  obtain ⟨v0, v1, d0, d1, p0, p1, rfl, rfl, hp, h0, h1⟩ := trodAll_two hA
  obtain ⟨rfl, rfl⟩ := trodVars_none hV
  simp only [List.append_nil] at hW'
  have hT := table hL
  have hgl : ∀ x ∈ awake.tabs, x.1 < Tryz.prog.globals.size := fun x hx => (hT x hx).1
  obtain ⟨f0, e0⟩ := id h0
  obtain ⟨σ0, S0, w0, s0, l0, m0, A0, R0, I0, n0⟩ := arg_rat (repL hT) noOwn_L (fresh_L hgl) (Nat.le_refl _) e0
  obtain ⟨sb1, rfl, _, _, sl1⟩ := Go.ChangeMaps.open_string Tryz.underlying9 (hval 1 9 v1 rfl rfl) h1
  obtain ⟨sm1, sy1⟩ := mkStr_bytes sb1
  have hrun := runs  (laidL.same A0.same) (digL.same A0.same) A0.fresh I0 ⟨sy1, by rw [List.length_map]; exact sl1⟩
  have hargs : Rvs Tryz.prog σ0 [w0, .str (sb1.data.toList.map UInt8.toNat)] [v0, .string sb1] := Rvs_cons.2 ⟨_, _, rfl, R0, Rvs_cons.2 ⟨_, _, rfl, (by simp only [Rv]; exact ⟨by rw [sm1], sy1⟩), Rvs_nil.2 rfl⟩⟩
  refine (calls_wpf knows Tryz.func3 (by kernel_rfl) (by kernel_rfl) hrun hargs A0.rep A0.no).mono fun e W' ⟨he, hg⟩ => ?_
  subst he
  refine ⟨_, rfl, post_kept (pa := p) (pv := []) hW' (fun _ _ _ => (trodAll_cons_mk (shut_bool Tryz.underlying4 _) trodAll_mk0)) (fun sp hsp => ?_) (fun _ _ => rfl) (by simp)
    hg (ok_one (by kernel_rfl) rfl (okWide_bool_mk Tryz.underlying4 _))⟩
  show DataW.TrodAll enc Tryz.prog W' 0 sp true Tryz.f3.params.toList _ [d0, d1] _
  rw [Tryz.params3]
  exact shutAll hg (of_decide_eq_true (by kernel_rfl)) hA (fun q hq => hsp q (by simpa using hq))


/-- A WORLD FOR THE WITNESS: the settled one, the tables holding what their initialisers lay. -/
noncomputable def laidWorld (os : Os) : World :=
  { World.holding Tryz.prog os ⟨#[], #[.agg #[.bool false, .slice none 0 0, .slice none 0 0], .string ⟨#[]⟩], []⟩ with heap := ((((World.holding Tryz.prog os ⟨#[], #[.agg #[.bool false, .slice none 0 0, .slice none 0 0], .string ⟨#[]⟩], []⟩).heap.modify 3 fun
      | .cells _ t frozen => .cells (nums0.map (Value.int .u8)).toArray t frozen
      | o => o).modify 0 fun
      | .cells _ t frozen => .cells (nums1.map (Value.int .u8)).toArray t frozen
      | o => o).modify 1 fun
      | .cells _ t frozen => .cells (nums2.map (Value.int .i64)).toArray t frozen
      | o => o) }
theorem laid_met (os : Os) : laidMet Tryz.prog Rows.ratTextsRow.laid ((laidWorld os).forCall (fun _ _ => 0) ⟨#[], #[.agg #[.bool false, .slice none 0 0, .slice none 0 0], .string ⟨#[]⟩], []⟩).memory :=
  laidMet_of_run' 8 (by kernel_rfl) (by kernel_rfl)
theorem reads (os : Os) {H : Type} (enc : TypeId × Value → H) : ∃ places, DataW.whole enc Tryz.prog ((laidWorld os).forCall (fun _ _ => 0) ⟨#[], #[.agg #[.bool false, .slice none 0 0, .slice none 0 0], .string ⟨#[]⟩], []⟩).memory Tryz.f3.params.toList Rows.ratTextsSpec.vars false (#[.agg #[.bool false, .slice none 0 0, .slice none 0 0], .string ⟨#[]⟩] : Array Value).toList 8 = some ([.agg [.lit (.bool false), .nil, .nil], .lit (.string [])], [], places) :=
  ⟨[], by kernel_rfl⟩

set_option maxRecDepth 100000 in
theorem lifted (os : Os) (started : os.Started) (H : Type) (enc : TypeId × Value → H) (F : Stop.Interp) :
    ReturnsInHanded {} Tryz.checked os 3 .any ((OpenSpec.ofChange Rows.ratTextsSpec).preRow enc Tryz.prog Tryz.f3 Rows.ratTextsRow.domain false Rows.ratTextsRow.laid) (((OpenSpec.ofChange Rows.ratTextsSpec).at F).post enc Tryz.prog Tryz.f3 false true false false) := by
  obtain ⟨places, hx⟩ := reads os enc
  refine returnsInHanded_of_row (C := Tryz.checked) (s := OpenSpec.ofChange Rows.ratTextsSpec) own started (by kernel_rfl) Tryz.func3
    (witness_row_at (enc := enc) (C := Tryz.checked) false (laidWorld os) #[.agg #[.bool false, .slice none 0 0, .slice none 0 0], .string ⟨#[]⟩] rfl (by kernel_rfl) (by kernel_rfl) (by kernel_rfl)
      (OpenSpec.preRow_of_cond 8 hx (by kernel_rfl) (fun k hk => by cases hk) (by kernel_rfl) (laid_met os))) ?_
  intro W base args ds gs before hval hW _ _ _ hL _ _
  exact contract H enc W base args ds gs before hval hW hL

theorem said : Rows.RatTextsSaid :=
  OpenClaim.holds_of_cond 3 Tryz.f3 rfl rfl rfl rfl rfl rfl rfl ⟨rfl, rfl, rfl, rfl, rfl⟩ rfl rfl rfl rfl rfl (by kernel_rfl) Tryz.func3 (by kernel_rfl)
    (of_decide_eq_true (by kernel_rfl)) (by unfold Func.isWrapper; first | (rw [if_pos (by decide +kernel)]; kernel_rfl) | (rw [if_neg (by decide +kernel)]; exact ⟨rfl, rfl⟩))
    (fun os started H enc _ F => by rw [OpenClaim.pre_eq_preRow]; exact lifted os started H enc F)

theorem plain (f : FuncId) (fn : Func) (hf : Tryz.pinned.checked.prog.funcNamed Tryz.f3.name = some f) (hfn : Tryz.pinned.checked.prog.funcs[f]? = some fn) :
    false = Tryz.pinned.checked.prog.looks [] ∧ ∀ (j : Nat) t, fn.params[j]? = some t → Tryz.pinned.checked.prog.wantsStandIn t = false := by
  obtain rfl : f = 3 := Option.some.inj ((show Tryz.prog.funcNamed Tryz.f3.name = some 3 by kernel_rfl).symm.trans hf) |>.symm
  obtain rfl : fn = Tryz.f3 := (Option.some.inj (Tryz.func3.symm.trans hfn)).symm
  refine ⟨by kernel_rfl, fun j t ht => ?_⟩
  rw [Tryz.params3] at ht
  have w25 : Tryz.pinned.checked.prog.wantsStandIn 25 = false := by kernel_rfl
  have w9 : Tryz.pinned.checked.prog.wantsStandIn 9 = false := by kernel_rfl
  match j, ht with
  | 0, h => cases h; exact w25
  | 1, h => cases h; exact w9
  | j + 2, h => simp at h

/-- THE CARD -/
theorem proved : Rows.RatTextsCardSaid :=
  Claim7.holds_tied_plain_at .later [] _ _ _ _ said (fun _ h => by cases h) (by kernel_rfl) (fun _ h => by cases h) ratTexts_row_tie rfl ⟨rfl, rfl⟩ (by kernel_rfl) rfl plain (by kernel_rfl)
end Go.Proofs.YtmbmidkdinllgaaGreatDoor.ratTexts
#print axioms Go.Proofs.YtmbmidkdinllgaaGreatDoor.ratTexts.proved
