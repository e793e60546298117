/- 'NormalForms': the table of functions that the law reaches; the call of lives stands for itself, where the tables lie. -/
import Derived.Test.YtffbfglbdghpaaaGreatDoorGl13
import Derived.Test.YtffbfglbdghpaaaGreatDoorAwakeRun
namespace Go.Proofs.YtffbfglbdghpaaaGreatDoor.normalForms
open Go.Ev Go.Ev.Gl
set_option maxRecDepth 100000
def tz : List (Nat × List (IntKind × Int)) := [(0, [(.u8, 0), (.u8, 1), (.u8, 56), (.u8, 2), (.u8, 57), (.u8, 49), (.u8, 28), (.u8, 3), (.u8, 61), (.u8, 58), (.u8, 42), (.u8, 50), (.u8, 38), (.u8, 29), (.u8, 17), (.u8, 4), (.u8, 62), (.u8, 47), (.u8, 59), (.u8, 36), (.u8, 45), (.u8, 43), (.u8, 51), (.u8, 22), (.u8, 53), (.u8, 39), (.u8, 33), (.u8, 30), (.u8, 24), (.u8, 18), (.u8, 12), (.u8, 5), (.u8, 63), (.u8, 55), (.u8, 48), (.u8, 27), (.u8, 60), (.u8, 41), (.u8, 37), (.u8, 16), (.u8, 46), (.u8, 35), (.u8, 44), (.u8, 21), (.u8, 52), (.u8, 32), (.u8, 23), (.u8, 11), (.u8, 54), (.u8, 26), (.u8, 40), (.u8, 15), (.u8, 34), (.u8, 20), (.u8, 31), (.u8, 10), (.u8, 25), (.u8, 14), (.u8, 19), (.u8, 9), (.u8, 13), (.u8, 8), (.u8, 7), (.u8, 6)])]
theorem tabs_eq : awake.tabs = tz.map fun x => (x.1, x.2.map fun y => AV.int y.1 y.2) := by kernel_rfl
theorem tz_ok : ∀ x ∈ tz, x.1 < Tryz.prog.globals.size ∧ x.2 ≠ [] := by
  have hg : Tryz.prog.globals.size = 1 := by kernel_rfl
  rw [hg]
  decide
noncomputable def fnsL : List (Nat × AFn) := (4, fakeFn (allCells tz)) :: [(3, a3), (5, a5), (6, a6), (7, a7), (8, a8), (9, a9), (10, a10), (11, a11), (18, a18), (19, a19), (20, a20), (21, a21), (22, a22), (23, a23), (24, a24), (25, a25), (26, a26), (39, a39), (40, a40), (41, a41), (42, a42), (43, a43), (59, a59), (60, a60), (61, a61), (62, a62), (63, a63), (64, a64), (65, a65), (78, a78), (79, a79), (80, a80), (81, a81), (82, a82), (83, a83), (84, a84), (85, a85), (86, a86), (87, a87), (88, a88), (112, a112), (113, a113), (114, a114), (115, a115), (116, a116), (117, a117), (118, a118), (119, a119), (120, a120), (121, a121), (122, a122)]
theorem knows : Known Tryz.prog (table fnsL) := by
  refine known_table2 (by kernel_rfl) ?_
  have hf : Faked Tryz.prog (table fnsL) 4 (fakeFn (allCells tz)) := faked_of_good Tryz.func4 awake.body tabs_eq tz_ok awake.good
  have e : fnsL = (4, fakeFn (allCells tz)) :: [(3, a3), (5, a5), (6, a6), (7, a7), (8, a8), (9, a9), (10, a10), (11, a11), (18, a18), (19, a19), (20, a20), (21, a21), (22, a22), (23, a23), (24, a24), (25, a25), (26, a26), (39, a39), (40, a40), (41, a41), (42, a42), (43, a43), (59, a59), (60, a60), (61, a61), (62, a62), (63, a63), (64, a64), (65, a65), (78, a78), (79, a79), (80, a80), (81, a81), (82, a82), (83, a83), (84, a84), (85, a85), (86, a86), (87, a87), (88, a88), (112, a112), (113, a113), (114, a114), (115, a115), (116, a116), (117, a117), (118, a118), (119, a119), (120, a120), (121, a121), (122, a122)] := rfl
  generalize table fnsL = t at hf ⊢
  rw [e]
  refine List.forall_mem_cons.2 ⟨.inr hf, ?_⟩
  refine List.forall_mem_cons.2 ⟨.inl row3, ?_⟩
  refine List.forall_mem_cons.2 ⟨.inl row5, ?_⟩
  refine List.forall_mem_cons.2 ⟨.inl row6, ?_⟩
  refine List.forall_mem_cons.2 ⟨.inl row7, ?_⟩
  refine List.forall_mem_cons.2 ⟨.inl row8, ?_⟩
  refine List.forall_mem_cons.2 ⟨.inl row9, ?_⟩
  refine List.forall_mem_cons.2 ⟨.inl row10, ?_⟩
  refine List.forall_mem_cons.2 ⟨.inl row11, ?_⟩
  refine List.forall_mem_cons.2 ⟨.inl row18, ?_⟩
  refine List.forall_mem_cons.2 ⟨.inl row19, ?_⟩
  refine List.forall_mem_cons.2 ⟨.inl row20, ?_⟩
  refine List.forall_mem_cons.2 ⟨.inl row21, ?_⟩
  refine List.forall_mem_cons.2 ⟨.inl row22, ?_⟩
  refine List.forall_mem_cons.2 ⟨.inl row23, ?_⟩
  refine List.forall_mem_cons.2 ⟨.inl row24, ?_⟩
  refine List.forall_mem_cons.2 ⟨.inl row25, ?_⟩
  refine List.forall_mem_cons.2 ⟨.inl row26, ?_⟩
  refine List.forall_mem_cons.2 ⟨.inl row39, ?_⟩
  refine List.forall_mem_cons.2 ⟨.inl row40, ?_⟩
  refine List.forall_mem_cons.2 ⟨.inl row41, ?_⟩
  refine List.forall_mem_cons.2 ⟨.inl row42, ?_⟩
  refine List.forall_mem_cons.2 ⟨.inl row43, ?_⟩
  refine List.forall_mem_cons.2 ⟨.inl row59, ?_⟩
  refine List.forall_mem_cons.2 ⟨.inl row60, ?_⟩
  refine List.forall_mem_cons.2 ⟨.inl row61, ?_⟩
  refine List.forall_mem_cons.2 ⟨.inl row62, ?_⟩
  refine List.forall_mem_cons.2 ⟨.inl row63, ?_⟩
  refine List.forall_mem_cons.2 ⟨.inl row64, ?_⟩
  refine List.forall_mem_cons.2 ⟨.inl row65, ?_⟩
  refine List.forall_mem_cons.2 ⟨.inl row78, ?_⟩
  refine List.forall_mem_cons.2 ⟨.inl row79, ?_⟩
  refine List.forall_mem_cons.2 ⟨.inl row80, ?_⟩
  refine List.forall_mem_cons.2 ⟨.inl row81, ?_⟩
  refine List.forall_mem_cons.2 ⟨.inl row82, ?_⟩
  refine List.forall_mem_cons.2 ⟨.inl row83, ?_⟩
  refine List.forall_mem_cons.2 ⟨.inl row84, ?_⟩
  refine List.forall_mem_cons.2 ⟨.inl row85, ?_⟩
  refine List.forall_mem_cons.2 ⟨.inl row86, ?_⟩
  refine List.forall_mem_cons.2 ⟨.inl row87, ?_⟩
  refine List.forall_mem_cons.2 ⟨.inl row88, ?_⟩
  refine List.forall_mem_cons.2 ⟨.inl row112, ?_⟩
  refine List.forall_mem_cons.2 ⟨.inl row113, ?_⟩
  refine List.forall_mem_cons.2 ⟨.inl row114, ?_⟩
  refine List.forall_mem_cons.2 ⟨.inl row115, ?_⟩
  refine List.forall_mem_cons.2 ⟨.inl row116, ?_⟩
  refine List.forall_mem_cons.2 ⟨.inl row117, ?_⟩
  refine List.forall_mem_cons.2 ⟨.inl row118, ?_⟩
  refine List.forall_mem_cons.2 ⟨.inl row119, ?_⟩
  refine List.forall_mem_cons.2 ⟨.inl row120, ?_⟩
  refine List.forall_mem_cons.2 ⟨.inl row121, ?_⟩
  refine List.forall_mem_cons.2 ⟨.inl row122, ?_⟩
  intro p hp
  cases hp
theorem has : Has (table fnsL) := ⟨by kernel_rfl, by kernel_rfl, by kernel_rfl, by kernel_rfl, by kernel_rfl, by kernel_rfl, by kernel_rfl, by kernel_rfl, by kernel_rfl, by kernel_rfl, by kernel_rfl, by kernel_rfl, by kernel_rfl, by kernel_rfl, by kernel_rfl, by kernel_rfl, by kernel_rfl, by kernel_rfl, by kernel_rfl, by kernel_rfl, by kernel_rfl, by kernel_rfl, by kernel_rfl, by kernel_rfl, by kernel_rfl, by kernel_rfl, by kernel_rfl, by kernel_rfl, by kernel_rfl, by kernel_rfl, by kernel_rfl, by kernel_rfl, by kernel_rfl, by kernel_rfl, by kernel_rfl, by kernel_rfl, by kernel_rfl, by kernel_rfl, by kernel_rfl, by kernel_rfl, by kernel_rfl, by kernel_rfl, by kernel_rfl, by kernel_rfl, by kernel_rfl, by kernel_rfl, by kernel_rfl, by kernel_rfl, by kernel_rfl, by kernel_rfl, by kernel_rfl⟩
theorem loads {h : T AB} {g : Nat} {cs : List AV} (hg : h.get g = some (.ro cs)) : ∀ (l : List (IntKind × Int)) (j : Nat), (∀ i k z, l[i]? = some (k, z) → cs[j + i]? = some (.int k z)) → ∀ c ∈ cellsL g j l, load1 h c.1 c.2.1 = some (.int c.2.2.1 c.2.2.2)
  | [], _, _, c, hc => by cases hc
  | (k, z) :: l, j, hl, c, hc => by
    rcases List.mem_cons.1 hc with rfl | hc
    · have := hl 0 k z rfl
      simp only [load1, cellsAt, hg, osel_some, cellsOfB, nth_eq]
      exact this
    · exact loads hg l (j + 1) (fun i k z hi => by rw [show j + 1 + i = j + (i + 1) by omega]; exact hl (i + 1) k z hi) c hc
/-- the tables lie -/
structure LaidM (S : St) : Prop where
  t0 : S.h.get 0 = some (.ro (([(.u8, 0), (.u8, 1), (.u8, 56), (.u8, 2), (.u8, 57), (.u8, 49), (.u8, 28), (.u8, 3), (.u8, 61), (.u8, 58), (.u8, 42), (.u8, 50), (.u8, 38), (.u8, 29), (.u8, 17), (.u8, 4), (.u8, 62), (.u8, 47), (.u8, 59), (.u8, 36), (.u8, 45), (.u8, 43), (.u8, 51), (.u8, 22), (.u8, 53), (.u8, 39), (.u8, 33), (.u8, 30), (.u8, 24), (.u8, 18), (.u8, 12), (.u8, 5), (.u8, 63), (.u8, 55), (.u8, 48), (.u8, 27), (.u8, 60), (.u8, 41), (.u8, 37), (.u8, 16), (.u8, 46), (.u8, 35), (.u8, 44), (.u8, 21), (.u8, 52), (.u8, 32), (.u8, 23), (.u8, 11), (.u8, 54), (.u8, 26), (.u8, 40), (.u8, 15), (.u8, 34), (.u8, 20), (.u8, 31), (.u8, 10), (.u8, 25), (.u8, 14), (.u8, 19), (.u8, 9), (.u8, 13), (.u8, 8), (.u8, 7), (.u8, 6)] : List (IntKind × Int)).map fun y => AV.int y.1 y.2))
  lt : 1 ≤ S.nx
theorem LaidM.same {S S' : St} (h : LaidM S) (hs : Same S S') : LaidM S' := ⟨(hs.2 _ (by have := h.lt; omega)).trans h.t0, Nat.le_trans h.lt hs.1⟩
theorem awakes {S : St} (hL : LaidM S) : wpf (table fnsL) (.fn 4 [] []) [] S fun r S' => r = .bool true ∧ Same S S' := by
  refine wpf_mono (wpf_fake (l := allCells tz) (by kernel_rfl) ?_) fun r S' h => ⟨h.1, by rw [h.2]; exact Same.refl S⟩
  intro c hc
  simp only [tz, allCells, List.mem_append] at hc
  rcases hc with hc | hc
  · refine loads hL.t0 _ 0 (fun i k z hi => ?_) c hc
    rw [Nat.zero_add, List.getElem?_map, hi]
    rfl
  · cases hc
theorem laidM : LaidM (stL Tryz.prog awake.tabs) := ⟨by kernel_rfl, of_decide_eq_true (by kernel_rfl)⟩
theorem laid10 {S : St} (h : LaidM S) : Laid S := ⟨h.t0.trans (by kernel_rfl), trivial, by have := h.lt; omega⟩

/-- THE LAW, in the evaluator. -/
theorem runs {S : St} {sv0 pv0 : AV} {l0 : List Int} {L0 : List (List RawN)} {a1 : AV} {l1 : List Int} {n2 : Int} (hL : LaidM S) (h0 : IsSl .i64 S sv0 l0) (hp0 : IsSlG 1 RowE S pv0 L0) (h1 : IsSl .i64 S a1 l1) (n2w : -9223372036854775808 ≤ n2 ∧ n2 ≤ 9223372036854775807) : wpf (table fnsL) (.fn 3 [] []) [.agg [sv0, pv0], a1, .int .i64 n2] S fun r S' => r = .bool true ∧ Same S S' :=
  forms_spec has (fun X hX => awakes (hL.same hX)) (laid10 hL) h0 hp0 h1
end Go.Proofs.YtffbfglbdghpaaaGreatDoor.normalForms
