/-
  'RatSimplest' returns true whatever it is handed, where the package-level tables that it reads hold what the program's text lays. The run is shown in the evaluator (texts Gl), whose soundness is proved in the texts Ev; the call of awake is known by its own run. The row's condition is its list of tables; the card ties them to the text.
-/
import Derived.Test.YtmbmidkdinllgaaDoorCards
import Derived.Test.YtmbmidkdinllgaaDoorTie
import Derived.Test.YtmbmidkdinllgaaDoorRatSimplestFns
import Derived.WalkKit
import Derived.ProofKit
import Derived.OpenShut
import Derived.Carry
import Derived.ChangeSlices
import Derived.Deep.DeepHandedRow
import Derived.Lib.LaidTab
import Derived.Stop.LaidErr
namespace Go.Proofs.YtmbmidkdinllgaaDoor.ratSimplest
open Go.ChangeShapes Go.WideShapes Go.ChangeAt Go.RowKit Go.Ev Go.Ev.Gl

theorem own : ownKnob Tryd.prog.godebug = none := by kernel_rfl
theorem glob0 : Tryd.prog.globalNamed "math/bits.deBruijn64tab" = some 2 := by kernel_rfl
theorem type0 : (Tryd.prog.globals[2]?).map (·.type) = some 136 := by kernel_rfl
theorem cells0 : Tryd.prog.cellsOf 136 = 64 := by kernel_rfl
theorem elem0 : Tryd.prog.cellsOf 5 = 1 := by kernel_rfl
def nums0 : List Int := [0, 1, 56, 2, 57, 49, 28, 3, 61, 58, 42, 50, 38, 29, 17, 4, 62, 47, 59, 36, 45, 43, 51, 22, 53, 39, 33, 30, 24, 18, 12, 5, 63, 55, 48, 27, 60, 41, 37, 16, 46, 35, 44, 21, 52, 32, 23, 11, 54, 26, 40, 15, 34, 20, 31, 10, 25, 14, 19, 9, 13, 8, 7, 6]
theorem glob1 : Tryd.prog.globalNamed "parlour/rat.values" = some 0 := by kernel_rfl
theorem type1 : (Tryd.prog.globals[0]?).map (·.type) = some 73 := by kernel_rfl
theorem cells1 : Tryd.prog.cellsOf 73 = 3 := by kernel_rfl
theorem elem1 : Tryd.prog.cellsOf 3 = 1 := by kernel_rfl
def nums1 : List Int := [(-1), 0, 1]

/-- WHAT THE ROW's LIST GIVES. -/
theorem table {W : World} (h : laidMetH Tryd.prog Rows.ratSimplestRow.laid W) : Tabs Tryd.prog awake.tabs W := by
  have h0 : laidMet Tryd.prog [("math/bits.deBruijn64tab", Lib.tabData .u8 nums0), ("parlour/rat.values", Lib.tabData .i64 nums1)] W := h
  have t0 : Lib.TabIs Tryd.prog W "math/bits.deBruijn64tab" .u8 nums0 := Lib.tabIs_of_head glob0 type0 Tryd.underlying136 Tryd.underlying5 elem0 cells0 h0
  have t1 : Lib.TabIs Tryd.prog W "parlour/rat.values" .i64 nums1 := Lib.tabIs_of_head glob1 type1 Tryd.underlying73 Tryd.underlying3 elem1 cells1 h0.tail
  exact (tabs_cons glob0 (of_decide_eq_true (by kernel_rfl)) t0 (by kernel_rfl) (by decide) (tabs_cons glob1 (of_decide_eq_true (by kernel_rfl)) t1 (by kernel_rfl) (by decide) tabs_nil))

theorem elem : Tryd.prog.cellsOf 3 = 1 := by kernel_rfl
/-- a slice that was read reads the same where all is kept -/
theorem shut {H : Type} {enc : TypeId × Value → H} {W W' : World} {v : Value} {d : DataW H} {p : List MemPlace} {sp : Nat → Bool} (hk : Kept W W') (hd : DataW.Trod enc Tryd.prog W 0 (fun _ => true) true 32 v d p) (hsp : ∀ q ∈ p, sp q.block = true) :
    DataW.Trod enc Tryd.prog W' 0 sp true 32 v d p := by
  obtain ⟨fuel, hf⟩ := hd
  rcases open_ints Tryd.underlying32 Tryd.underlying3 elem hf with ⟨hcs, hx⟩ | ⟨a, len, cap, zs, hcs, hb, hlen, hmax, hz, hx, hcell, hwf⟩
  · cases hx
    exact ⟨1, by rw [hcs]; simp [DataW.trod, Tryd.underlying32]⟩
  · cases hx
    simp only [if_true] at hz
    rcases Nat.eq_zero_or_pos zs.length with h0 | hp
    · refine ⟨2, ?_⟩
      rw [hcs]
      have hc0 : cap = 0 := by omega
      exact shut_ints 0 Tryd.underlying32 Tryd.underlying3 elem (Nat.zero_le _) hlen hmax (by subst hc0; rw [hz]; split <;> omega) (fun i hi => by omega) hwf
    · refine ⟨2, ?_⟩
      rw [hcs]
      have hblk : ∀ i, i < zs.length → W'.cell? (a.add i) = W.cell? (a.add i) := fun i hi => by
        have hc := hcell i hi
        unfold World.cell? at hc ⊢
        cases hh : W.heap[(a.add i).block]? with
        | none => rw [hh] at hc; cases hc
        | some o => rw [hk.heap _ (Array.getElem?_eq_some_iff.1 hh).1]; rw [hh]
      refine shut_ints 0 Tryd.underlying32 Tryd.underlying3 elem hb hlen hmax ?_ (fun i hi => by rw [hblk i hi]; exact hcell i hi) hwf
      have : sp a.block = true := hsp (.cell a.block (a.off + 0)) (MemPlace.mem_row.2 ⟨0, hp, rfl⟩)
      rw [this]
      exact hz

set_option maxRecDepth 100000 in
theorem contract (H : Type) (enc : TypeId × Value → H) (W : World) (base : Nat) (args : Array Value) (ds gs : List (DataW H)) (before : List MemPlace)
    (hval : ∀ (j : Nat) t v, Tryd.f4.params[j]? = some t → args[j]? = some v → Value.okWide Tryd.prog W .any base t v)
    (hW : DataW.Whole enc Tryd.prog Tryd.f4.params.toList Rows.ratSimplestSpec.vars false W args.toList ds gs before) (hL : laidMetH Tryd.prog Rows.ratSimplestRow.laid W) :
    Calls Tryd.prog 4 args W fun e W' => ∃ v, e = .returned v ∧ Rows.ratSimplestSpec.post enc Tryd.prog Tryd.f4 false true false false W args v W' := by
  have hW' := hW
  obtain ⟨p, q, hA0, hV, rfl, hfz, hnd⟩ := hW
  have hA : DataW.TrodAll enc Tryd.prog W 0 (fun _ => true) true Tryd.f4.params.toList args.toList ds p := hA0
  rw [Tryd.params4] at hA hval
  obtain ⟨v0, d0, rfl, rfl, h0⟩ := trodAll_one hA
  obtain ⟨rfl, rfl⟩ := trodVars_none hV
  clear hA0
  simp only [List.append_nil] at hW'
  obtain ⟨b0, l0, c0, rfl⟩ := okWide_slice Tryd.underlying32 (hval 0 32 v0 rfl rfl)
  have hT := table hL
  have hgl : ∀ x ∈ awake.tabs, x.1 < Tryd.prog.globals.size := fun x hx => (hT x hx).1
  obtain ⟨f0, e0⟩ := id h0
  obtain ⟨σ0, S0, w0, z0, A0, R0, I0, n0, k0⟩ := arg_ints (repL hT) noOwn_L (fresh_L hgl) (Nat.le_refl _) Tryd.underlying32 Tryd.underlying3 elem e0
  have hrun := runs (laidL.same A0.same) A0.fresh I0
  have hargs : Rvs Tryd.prog σ0 [w0] [.slice b0 l0 c0] := Rvs_cons.2 ⟨_, _, rfl, R0, Rvs_nil.2 rfl⟩
  refine (calls_wpf knows Tryd.func4 (by kernel_rfl) (by kernel_rfl) hrun hargs A0.rep A0.no).mono fun e W' ⟨he, hg⟩ => ?_
  subst he
  refine ⟨_, rfl, post_kept (pa := p ++ []) (pv := []) hW' (fun _ _ _ => (trodAll_cons_mk (shut_bool Tryd.underlying4 _) trodAll_mk0)) (fun sp hsp => ?_) (fun _ _ => rfl) (by simp)
    hg (ok_one (by kernel_rfl) rfl (okWide_bool_mk Tryd.underlying4 _))⟩
  show DataW.TrodAll enc Tryd.prog W' 0 sp true Tryd.f4.params.toList _ [d0] _
  rw [Tryd.params4]
  exact trodAll_cons_mk (shut hg h0 fun q hq => hsp q (by simpa using hq)) trodAll_mk0


/-- A WORLD FOR THE WITNESS: the settled one, the tables holding what their initialisers lay. -/
noncomputable def laidWorld (os : Os) : World :=
  { World.holding Tryd.prog os ⟨#[], #[.slice none 0 0], []⟩ with heap := (((World.holding Tryd.prog os ⟨#[], #[.slice none 0 0], []⟩).heap.modify 2 fun
      | .cells _ t frozen => .cells (nums0.map (Value.int .u8)).toArray t frozen
      | o => o).modify 0 fun
      | .cells _ t frozen => .cells (nums1.map (Value.int .i64)).toArray t frozen
      | o => o) }
theorem laid_met (os : Os) : laidMet Tryd.prog Rows.ratSimplestRow.laid ((laidWorld os).forCall (fun _ _ => 0) ⟨#[], #[.slice none 0 0], []⟩).memory :=
  laidMet_of_run' 8 (by kernel_rfl) (by kernel_rfl)
theorem reads (os : Os) {H : Type} (enc : TypeId × Value → H) : ∃ places, DataW.whole enc Tryd.prog ((laidWorld os).forCall (fun _ _ => 0) ⟨#[], #[.slice none 0 0], []⟩).memory Tryd.f4.params.toList Rows.ratSimplestSpec.vars false (#[.slice none 0 0] : Array Value).toList 8 = some ([.nil], [], places) :=
  ⟨[], by kernel_rfl⟩

set_option maxRecDepth 100000 in
theorem lifted (os : Os) (started : os.Started) (H : Type) (enc : TypeId × Value → H) (F : Stop.Interp) :
    ReturnsInHanded {} Tryd.checked os 4 .any ((OpenSpec.ofChange Rows.ratSimplestSpec).preRow enc Tryd.prog Tryd.f4 Rows.ratSimplestRow.domain false Rows.ratSimplestRow.laid) (((OpenSpec.ofChange Rows.ratSimplestSpec).at F).post enc Tryd.prog Tryd.f4 false true false false) := by
  obtain ⟨places, hx⟩ := reads os enc
  refine returnsInHanded_of_row (C := Tryd.checked) (s := OpenSpec.ofChange Rows.ratSimplestSpec) own started (by kernel_rfl) Tryd.func4
    (witness_row_at (enc := enc) (C := Tryd.checked) false (laidWorld os) #[.slice none 0 0] rfl (by kernel_rfl) (by kernel_rfl) (by kernel_rfl)
      (OpenSpec.preRow_of_cond 8 hx (by kernel_rfl) (fun k hk => by cases hk) (by kernel_rfl) (laid_met os))) ?_
  intro W base args ds gs before hval hW _ _ _ hL _ _
  exact contract H enc W base args ds gs before hval hW hL

theorem said : Rows.RatSimplestSaid :=
  OpenClaim.holds_of_cond 4 Tryd.f4 rfl rfl rfl rfl rfl rfl rfl ⟨rfl, rfl, rfl, rfl, rfl⟩ rfl rfl rfl rfl rfl (by kernel_rfl) Tryd.func4 (by kernel_rfl)
    (of_decide_eq_true (by kernel_rfl)) (by unfold Func.isWrapper; first | (rw [if_pos (by decide +kernel)]; kernel_rfl) | (rw [if_neg (by decide +kernel)]; exact ⟨rfl, rfl⟩))
    (fun os started H enc _ F => by rw [OpenClaim.pre_eq_preRow]; exact lifted os started H enc F)

theorem plain (f : FuncId) (fn : Func) (hf : Tryd.pinned.checked.prog.funcNamed Tryd.f4.name = some f) (hfn : Tryd.pinned.checked.prog.funcs[f]? = some fn) :
    false = Tryd.pinned.checked.prog.looks [] ∧ ∀ (j : Nat) t, fn.params[j]? = some t → Tryd.pinned.checked.prog.wantsStandIn t = false := by
  obtain rfl : f = 4 := Option.some.inj ((show Tryd.prog.funcNamed Tryd.f4.name = some 4 by kernel_rfl).symm.trans hf) |>.symm
  obtain rfl : fn = Tryd.f4 := (Option.some.inj (Tryd.func4.symm.trans hfn)).symm
  refine ⟨by kernel_rfl, fun j t ht => ?_⟩
  rw [Tryd.params4] at ht
  have w0 : Tryd.pinned.checked.prog.wantsStandIn 32 = false := by kernel_rfl
  match j, ht with
  | 0, h => cases h; exact w0
  | j + 1, h => simp at h

/-- THE CARD -/
theorem proved : Rows.RatSimplestCardSaid :=
  Claim7.holds_tied_plain_at .later [] _ _ _ _ said (fun _ h => by cases h) (by kernel_rfl) (fun _ h => by cases h) ratSimplest_row_tie rfl ⟨rfl, rfl⟩ (by kernel_rfl) rfl plain (by kernel_rfl)
end Go.Proofs.YtmbmidkdinllgaaDoor.ratSimplest
#print axioms Go.Proofs.YtmbmidkdinllgaaDoor.ratSimplest.proved
