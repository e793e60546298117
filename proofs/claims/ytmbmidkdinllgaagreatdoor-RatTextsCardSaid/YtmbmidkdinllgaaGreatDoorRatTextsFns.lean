/- 'RatTexts': the table of functions that the law reaches; the call of awake stands for itself, where the tables lie. -/
import Derived.Test.YtmbmidkdinllgaaGreatDoorGl7
import Derived.Test.YtmbmidkdinllgaaGreatDoorAwakeRun
namespace Go.Proofs.YtmbmidkdinllgaaGreatDoor.ratTexts
open Go.Ev Go.Ev.Gl
set_option maxRecDepth 100000
def tz : List (Nat × List (IntKind × Int)) := [(3, [(.u8, 0), (.u8, 1), (.u8, 56), (.u8, 2), (.u8, 57), (.u8, 49), (.u8, 28), (.u8, 3), (.u8, 61), (.u8, 58), (.u8, 42), (.u8, 50), (.u8, 38), (.u8, 29), (.u8, 17), (.u8, 4), (.u8, 62), (.u8, 47), (.u8, 59), (.u8, 36), (.u8, 45), (.u8, 43), (.u8, 51), (.u8, 22), (.u8, 53), (.u8, 39), (.u8, 33), (.u8, 30), (.u8, 24), (.u8, 18), (.u8, 12), (.u8, 5), (.u8, 63), (.u8, 55), (.u8, 48), (.u8, 27), (.u8, 60), (.u8, 41), (.u8, 37), (.u8, 16), (.u8, 46), (.u8, 35), (.u8, 44), (.u8, 21), (.u8, 52), (.u8, 32), (.u8, 23), (.u8, 11), (.u8, 54), (.u8, 26), (.u8, 40), (.u8, 15), (.u8, 34), (.u8, 20), (.u8, 31), (.u8, 10), (.u8, 25), (.u8, 14), (.u8, 19), (.u8, 9), (.u8, 13), (.u8, 8), (.u8, 7), (.u8, 6)]), (0, [(.u8, 48), (.u8, 49), (.u8, 50), (.u8, 51), (.u8, 52), (.u8, 53), (.u8, 54), (.u8, 55), (.u8, 56), (.u8, 57)]), (1, [(.i64, (-1)), (.i64, 0), (.i64, 1)])]
theorem tabs_eq : awake.tabs = tz.map fun x => (x.1, x.2.map fun y => AV.int y.1 y.2) := by kernel_rfl
theorem tz_ok : ∀ x ∈ tz, x.1 < Tryz.prog.globals.size ∧ x.2 ≠ [] := by
  have hg : Tryz.prog.globals.size = 4 := by kernel_rfl
  rw [hg]
  decide
noncomputable def fnsL : List (Nat × AFn) := (5, fakeFn (allCells tz)) :: [(3, a3), (4, a4), (6, a6), (7, a7), (8, a8), (9, a9), (10, a10), (17, a17), (18, a18), (19, a19), (20, a20), (21, a21), (22, a22), (23, a23), (24, a24), (25, a25), (26, a26), (27, a27), (28, a28), (29, a29), (30, a30), (31, a31), (42, a42), (45, a45), (48, a48), (49, a49), (50, a50), (51, a51), (52, a52), (53, a53), (54, a54), (55, a55), (56, a56), (57, a57), (58, a58), (59, a59), (60, a60), (61, a61), (62, a62), (63, a63), (71, a71), (73, a73), (77, a77), (80, a80), (81, a81), (82, a82), (83, a83), (84, a84), (85, a85), (86, a86), (87, a87), (88, a88), (89, a89), (93, a93), (94, a94), (95, a95), (96, a96), (97, a97), (99, a99), (100, a100), (101, a101), (102, a102), (104, a104)]
theorem knows : Known Tryz.prog (table fnsL) := by
  refine known_table2 (by kernel_rfl) ?_
  have hf : Faked Tryz.prog (table fnsL) 5 (fakeFn (allCells tz)) := faked_of_good Tryz.func5 awake.body tabs_eq tz_ok awake.good
  have e : fnsL = (5, fakeFn (allCells tz)) :: [(3, a3), (4, a4), (6, a6), (7, a7), (8, a8), (9, a9), (10, a10), (17, a17), (18, a18), (19, a19), (20, a20), (21, a21), (22, a22), (23, a23), (24, a24), (25, a25), (26, a26), (27, a27), (28, a28), (29, a29), (30, a30), (31, a31), (42, a42), (45, a45), (48, a48), (49, a49), (50, a50), (51, a51), (52, a52), (53, a53), (54, a54), (55, a55), (56, a56), (57, a57), (58, a58), (59, a59), (60, a60), (61, a61), (62, a62), (63, a63), (71, a71), (73, a73), (77, a77), (80, a80), (81, a81), (82, a82), (83, a83), (84, a84), (85, a85), (86, a86), (87, a87), (88, a88), (89, a89), (93, a93), (94, a94), (95, a95), (96, a96), (97, a97), (99, a99), (100, a100), (101, a101), (102, a102), (104, a104)] := rfl
  generalize table fnsL = t at hf ⊢
  rw [e]
  refine List.forall_mem_cons.2 ⟨.inr hf, ?_⟩
  refine List.forall_mem_cons.2 ⟨.inl row3, ?_⟩
  refine List.forall_mem_cons.2 ⟨.inl row4, ?_⟩
  refine List.forall_mem_cons.2 ⟨.inl row6, ?_⟩
  refine List.forall_mem_cons.2 ⟨.inl row7, ?_⟩
  refine List.forall_mem_cons.2 ⟨.inl row8, ?_⟩
  refine List.forall_mem_cons.2 ⟨.inl row9, ?_⟩
  refine List.forall_mem_cons.2 ⟨.inl row10, ?_⟩
  refine List.forall_mem_cons.2 ⟨.inl row17, ?_⟩
  refine List.forall_mem_cons.2 ⟨.inl row18, ?_⟩
  refine List.forall_mem_cons.2 ⟨.inl row19, ?_⟩
  refine List.forall_mem_cons.2 ⟨.inl row20, ?_⟩
  refine List.forall_mem_cons.2 ⟨.inl row21, ?_⟩
  refine List.forall_mem_cons.2 ⟨.inl row22, ?_⟩
  refine List.forall_mem_cons.2 ⟨.inl row23, ?_⟩
  refine List.forall_mem_cons.2 ⟨.inl row24, ?_⟩
  refine List.forall_mem_cons.2 ⟨.inl row25, ?_⟩
  refine List.forall_mem_cons.2 ⟨.inl row26, ?_⟩
  refine List.forall_mem_cons.2 ⟨.inl row27, ?_⟩
  refine List.forall_mem_cons.2 ⟨.inl row28, ?_⟩
  refine List.forall_mem_cons.2 ⟨.inl row29, ?_⟩
  refine List.forall_mem_cons.2 ⟨.inl row30, ?_⟩
  refine List.forall_mem_cons.2 ⟨.inl row31, ?_⟩
  refine List.forall_mem_cons.2 ⟨.inl row42, ?_⟩
  refine List.forall_mem_cons.2 ⟨.inl row45, ?_⟩
  refine List.forall_mem_cons.2 ⟨.inl row48, ?_⟩
  refine List.forall_mem_cons.2 ⟨.inl row49, ?_⟩
  refine List.forall_mem_cons.2 ⟨.inl row50, ?_⟩
  refine List.forall_mem_cons.2 ⟨.inl row51, ?_⟩
  refine List.forall_mem_cons.2 ⟨.inl row52, ?_⟩
  refine List.forall_mem_cons.2 ⟨.inl row53, ?_⟩
  refine List.forall_mem_cons.2 ⟨.inl row54, ?_⟩
  refine List.forall_mem_cons.2 ⟨.inl row55, ?_⟩
  refine List.forall_mem_cons.2 ⟨.inl row56, ?_⟩
  refine List.forall_mem_cons.2 ⟨.inl row57, ?_⟩
  refine List.forall_mem_cons.2 ⟨.inl row58, ?_⟩
  refine List.forall_mem_cons.2 ⟨.inl row59, ?_⟩
  refine List.forall_mem_cons.2 ⟨.inl row60, ?_⟩
  refine List.forall_mem_cons.2 ⟨.inl row61, ?_⟩
  refine List.forall_mem_cons.2 ⟨.inl row62, ?_⟩
  refine List.forall_mem_cons.2 ⟨.inl row63, ?_⟩
  refine List.forall_mem_cons.2 ⟨.inl row71, ?_⟩
  refine List.forall_mem_cons.2 ⟨.inl row73, ?_⟩
  refine List.forall_mem_cons.2 ⟨.inl row77, ?_⟩
  refine List.forall_mem_cons.2 ⟨.inl row80, ?_⟩
  refine List.forall_mem_cons.2 ⟨.inl row81, ?_⟩
  refine List.forall_mem_cons.2 ⟨.inl row82, ?_⟩
  refine List.forall_mem_cons.2 ⟨.inl row83, ?_⟩
  refine List.forall_mem_cons.2 ⟨.inl row84, ?_⟩
  refine List.forall_mem_cons.2 ⟨.inl row85, ?_⟩
  refine List.forall_mem_cons.2 ⟨.inl row86, ?_⟩
  refine List.forall_mem_cons.2 ⟨.inl row87, ?_⟩
  refine List.forall_mem_cons.2 ⟨.inl row88, ?_⟩
  refine List.forall_mem_cons.2 ⟨.inl row89, ?_⟩
  refine List.forall_mem_cons.2 ⟨.inl row93, ?_⟩
  refine List.forall_mem_cons.2 ⟨.inl row94, ?_⟩
  refine List.forall_mem_cons.2 ⟨.inl row95, ?_⟩
  refine List.forall_mem_cons.2 ⟨.inl row96, ?_⟩
  refine List.forall_mem_cons.2 ⟨.inl row97, ?_⟩
  refine List.forall_mem_cons.2 ⟨.inl row99, ?_⟩
  refine List.forall_mem_cons.2 ⟨.inl row100, ?_⟩
  refine List.forall_mem_cons.2 ⟨.inl row101, ?_⟩
  refine List.forall_mem_cons.2 ⟨.inl row102, ?_⟩
  refine List.forall_mem_cons.2 ⟨.inl row104, ?_⟩
  intro p hp
  cases hp
theorem has : Has (table fnsL) := ⟨by kernel_rfl, by kernel_rfl, by kernel_rfl, by kernel_rfl, by kernel_rfl, by kernel_rfl, by kernel_rfl, by kernel_rfl, by kernel_rfl, by kernel_rfl, by kernel_rfl, by kernel_rfl, by kernel_rfl, by kernel_rfl, by kernel_rfl, by kernel_rfl, by kernel_rfl, by kernel_rfl, by kernel_rfl, by kernel_rfl, by kernel_rfl, by kernel_rfl, by kernel_rfl, by kernel_rfl, by kernel_rfl, by kernel_rfl, by kernel_rfl, by kernel_rfl, by kernel_rfl, by kernel_rfl, by kernel_rfl, by kernel_rfl, by kernel_rfl, by kernel_rfl, by kernel_rfl, by kernel_rfl, by kernel_rfl, by kernel_rfl, by kernel_rfl, by kernel_rfl, by kernel_rfl, by kernel_rfl, by kernel_rfl, by kernel_rfl, by kernel_rfl, by kernel_rfl, by kernel_rfl, by kernel_rfl, by kernel_rfl, by kernel_rfl, by kernel_rfl, by kernel_rfl, by kernel_rfl, by kernel_rfl, by kernel_rfl, by kernel_rfl, by kernel_rfl, by kernel_rfl, by kernel_rfl, by kernel_rfl, by kernel_rfl, by kernel_rfl, by kernel_rfl⟩
theorem loads {h : T AB} {g : Nat} {cs : List AV} (hg : h.get g = some (.ro cs)) : ∀ (l : List (IntKind × Int)) (j : Nat), (∀ i k z, l[i]? = some (k, z) → cs[j + i]? = some (.int k z)) → ∀ c ∈ cellsL g j l, load1 h c.1 c.2.1 = some (.int c.2.2.1 c.2.2.2)
  | [], _, _, c, hc => by cases hc
  | (k, z) :: l, j, hl, c, hc => by
    rcases List.mem_cons.1 hc with rfl | hc
    · have := hl 0 k z rfl
      simp only [load1, cellsAt, hg, osel_some, cellsOfB, nth_eq]
      exact this
    · exact loads hg l (j + 1) (fun i k z hi => by rw [show j + 1 + i = j + (i + 1) by omega]; exact hl (i + 1) k z hi) c hc
theorem awakes {S : St} (hL : Laid S) (hT : DigT S) : wpf (table fnsL) (.fn 5 [] []) [] S fun r S' => r = .bool true ∧ Same S S' := by
  refine wpf_mono (wpf_fake (l := allCells tz) (by kernel_rfl) ?_) fun r S' h => ⟨h.1, by rw [h.2]; exact Same.refl S⟩
  obtain ⟨h1, h2, _⟩ := hL
  intro c hc
  simp only [tz, allCells, List.mem_append] at hc
  rcases hc with hc | hc | hc | hc
  · refine loads h1 _ 0 (fun i k z hi => ?_) c hc
    rw [show tabB = (([(.u8, 0), (.u8, 1), (.u8, 56), (.u8, 2), (.u8, 57), (.u8, 49), (.u8, 28), (.u8, 3), (.u8, 61), (.u8, 58), (.u8, 42), (.u8, 50), (.u8, 38), (.u8, 29), (.u8, 17), (.u8, 4), (.u8, 62), (.u8, 47), (.u8, 59), (.u8, 36), (.u8, 45), (.u8, 43), (.u8, 51), (.u8, 22), (.u8, 53), (.u8, 39), (.u8, 33), (.u8, 30), (.u8, 24), (.u8, 18), (.u8, 12), (.u8, 5), (.u8, 63), (.u8, 55), (.u8, 48), (.u8, 27), (.u8, 60), (.u8, 41), (.u8, 37), (.u8, 16), (.u8, 46), (.u8, 35), (.u8, 44), (.u8, 21), (.u8, 52), (.u8, 32), (.u8, 23), (.u8, 11), (.u8, 54), (.u8, 26), (.u8, 40), (.u8, 15), (.u8, 34), (.u8, 20), (.u8, 31), (.u8, 10), (.u8, 25), (.u8, 14), (.u8, 19), (.u8, 9), (.u8, 13), (.u8, 8), (.u8, 7), (.u8, 6)] : List (IntKind × Int)).map fun y => AV.int y.1 y.2) by kernel_rfl, Nat.zero_add, List.getElem?_map, hi]
    rfl
  · refine loads hT.1 _ 0 (fun i k z hi => ?_) c hc
    rw [show tabD = (([(.u8, 48), (.u8, 49), (.u8, 50), (.u8, 51), (.u8, 52), (.u8, 53), (.u8, 54), (.u8, 55), (.u8, 56), (.u8, 57)] : List (IntKind × Int)).map fun y => AV.int y.1 y.2) by kernel_rfl, Nat.zero_add, List.getElem?_map, hi]
    rfl
  · refine loads h2 _ 0 (fun i k z hi => ?_) c hc
    rw [show tabV = (([(.i64, (-1)), (.i64, 0), (.i64, 1)] : List (IntKind × Int)).map fun y => AV.int y.1 y.2) by kernel_rfl, Nat.zero_add, List.getElem?_map, hi]
    rfl
  · cases hc
theorem laidL : Laid (stL Tryz.prog awake.tabs) := ⟨by kernel_rfl, by kernel_rfl, of_decide_eq_true (by kernel_rfl)⟩
theorem digL : DigT (stL Tryz.prog awake.tabs) := ⟨by kernel_rfl, of_decide_eq_true (by kernel_rfl)⟩

/-- THE LAW, in the evaluator. -/
theorem runs {S : St} {a0 : AV} {s0 : Bool} {l0 m0 : List Nat} {l1 : List Nat} (hL : Laid S) (hT : DigT S) (hF : Fresh S) (h0 : RawIs S a0 s0 l0 m0) (h1 : Bytes l1 ∧ l1.length ≤ maxLen) : wpf (table fnsL) (.fn 3 [] []) [a0, .str l1] S fun r S' => r = .bool true ∧ Same S S' :=
  texts_spec has hL hT hF (fun _ h t => awakes h t) h0 h1
end Go.Proofs.YtmbmidkdinllgaaGreatDoor.ratTexts
