/- 'RatWholes': the table of functions that the law reaches; the call of awake stands for itself, where the tables lie. -/
import Derived.Test.YtmbmidkdinllgaaDoorGl6
import Derived.Test.YtmbmidkdinllgaaDoorAwakeRun
namespace Go.Proofs.YtmbmidkdinllgaaDoor.ratWholes
open Go.Ev Go.Ev.Gl
set_option maxRecDepth 100000
def tz : List (Nat × List (IntKind × Int)) := [(2, [(.u8, 0), (.u8, 1), (.u8, 56), (.u8, 2), (.u8, 57), (.u8, 49), (.u8, 28), (.u8, 3), (.u8, 61), (.u8, 58), (.u8, 42), (.u8, 50), (.u8, 38), (.u8, 29), (.u8, 17), (.u8, 4), (.u8, 62), (.u8, 47), (.u8, 59), (.u8, 36), (.u8, 45), (.u8, 43), (.u8, 51), (.u8, 22), (.u8, 53), (.u8, 39), (.u8, 33), (.u8, 30), (.u8, 24), (.u8, 18), (.u8, 12), (.u8, 5), (.u8, 63), (.u8, 55), (.u8, 48), (.u8, 27), (.u8, 60), (.u8, 41), (.u8, 37), (.u8, 16), (.u8, 46), (.u8, 35), (.u8, 44), (.u8, 21), (.u8, 52), (.u8, 32), (.u8, 23), (.u8, 11), (.u8, 54), (.u8, 26), (.u8, 40), (.u8, 15), (.u8, 34), (.u8, 20), (.u8, 31), (.u8, 10), (.u8, 25), (.u8, 14), (.u8, 19), (.u8, 9), (.u8, 13), (.u8, 8), (.u8, 7), (.u8, 6)]), (0, [(.i64, (-1)), (.i64, 0), (.i64, 1)])]
theorem tabs_eq : awake.tabs = tz.map fun x => (x.1, x.2.map fun y => AV.int y.1 y.2) := by kernel_rfl
theorem tz_ok : ∀ x ∈ tz, x.1 < Tryd.prog.globals.size ∧ x.2 ≠ [] := by
  have hg : Tryd.prog.globals.size = 4 := by kernel_rfl
  rw [hg]
  decide
noncomputable def fnsL : List (Nat × AFn) := (11, fakeFn (allCells tz)) :: [(8, a8), (10, a10), (14, a14), (31, a31), (32, a32), (36, a36), (37, a37), (38, a38), (39, a39), (40, a40), (41, a41), (42, a42), (43, a43), (44, a44), (45, a45), (46, a46), (52, a52), (55, a55), (58, a58), (63, a63), (64, a64), (65, a65), (66, a66), (69, a69), (70, a70), (74, a74), (75, a75), (76, a76), (77, a77), (79, a79), (80, a80), (81, a81), (82, a82), (83, a83), (84, a84), (85, a85), (86, a86), (87, a87), (88, a88), (89, a89), (91, a91), (96, a96), (97, a97), (98, a98), (99, a99), (102, a102), (103, a103), (109, a109), (110, a110), (111, a111), (112, a112), (113, a113), (114, a114), (115, a115), (116, a116), (117, a117), (118, a118), (119, a119), (120, a120), (121, a121), (122, a122), (127, a127), (128, a128), (129, a129), (133, a133), (134, a134), (135, a135), (136, a136), (137, a137), (138, a138), (142, a142), (143, a143)]
theorem knows : Known Tryd.prog (table fnsL) := by
  refine known_table2 (by kernel_rfl) ?_
  have hf : Faked Tryd.prog (table fnsL) 11 (fakeFn (allCells tz)) := faked_of_good Tryd.func11 awake.body tabs_eq tz_ok awake.good
  have e : fnsL = (11, fakeFn (allCells tz)) :: [(8, a8), (10, a10), (14, a14), (31, a31), (32, a32), (36, a36), (37, a37), (38, a38), (39, a39), (40, a40), (41, a41), (42, a42), (43, a43), (44, a44), (45, a45), (46, a46), (52, a52), (55, a55), (58, a58), (63, a63), (64, a64), (65, a65), (66, a66), (69, a69), (70, a70), (74, a74), (75, a75), (76, a76), (77, a77), (79, a79), (80, a80), (81, a81), (82, a82), (83, a83), (84, a84), (85, a85), (86, a86), (87, a87), (88, a88), (89, a89), (91, a91), (96, a96), (97, a97), (98, a98), (99, a99), (102, a102), (103, a103), (109, a109), (110, a110), (111, a111), (112, a112), (113, a113), (114, a114), (115, a115), (116, a116), (117, a117), (118, a118), (119, a119), (120, a120), (121, a121), (122, a122), (127, a127), (128, a128), (129, a129), (133, a133), (134, a134), (135, a135), (136, a136), (137, a137), (138, a138), (142, a142), (143, a143)] := rfl
  generalize table fnsL = t at hf ⊢
  rw [e]
  refine List.forall_mem_cons.2 ⟨.inr hf, ?_⟩
  refine List.forall_mem_cons.2 ⟨.inl row8, ?_⟩
  refine List.forall_mem_cons.2 ⟨.inl row10, ?_⟩
  refine List.forall_mem_cons.2 ⟨.inl row14, ?_⟩
  refine List.forall_mem_cons.2 ⟨.inl row31, ?_⟩
  refine List.forall_mem_cons.2 ⟨.inl row32, ?_⟩
  refine List.forall_mem_cons.2 ⟨.inl row36, ?_⟩
  refine List.forall_mem_cons.2 ⟨.inl row37, ?_⟩
  refine List.forall_mem_cons.2 ⟨.inl row38, ?_⟩
  refine List.forall_mem_cons.2 ⟨.inl row39, ?_⟩
  refine List.forall_mem_cons.2 ⟨.inl row40, ?_⟩
  refine List.forall_mem_cons.2 ⟨.inl row41, ?_⟩
  refine List.forall_mem_cons.2 ⟨.inl row42, ?_⟩
  refine List.forall_mem_cons.2 ⟨.inl row43, ?_⟩
  refine List.forall_mem_cons.2 ⟨.inl row44, ?_⟩
  refine List.forall_mem_cons.2 ⟨.inl row45, ?_⟩
  refine List.forall_mem_cons.2 ⟨.inl row46, ?_⟩
  refine List.forall_mem_cons.2 ⟨.inl row52, ?_⟩
  refine List.forall_mem_cons.2 ⟨.inl row55, ?_⟩
  refine List.forall_mem_cons.2 ⟨.inl row58, ?_⟩
  refine List.forall_mem_cons.2 ⟨.inl row63, ?_⟩
  refine List.forall_mem_cons.2 ⟨.inl row64, ?_⟩
  refine List.forall_mem_cons.2 ⟨.inl row65, ?_⟩
  refine List.forall_mem_cons.2 ⟨.inl row66, ?_⟩
  refine List.forall_mem_cons.2 ⟨.inl row69, ?_⟩
  refine List.forall_mem_cons.2 ⟨.inl row70, ?_⟩
  refine List.forall_mem_cons.2 ⟨.inl row74, ?_⟩
  refine List.forall_mem_cons.2 ⟨.inl row75, ?_⟩
  refine List.forall_mem_cons.2 ⟨.inl row76, ?_⟩
  refine List.forall_mem_cons.2 ⟨.inl row77, ?_⟩
  refine List.forall_mem_cons.2 ⟨.inl row79, ?_⟩
  refine List.forall_mem_cons.2 ⟨.inl row80, ?_⟩
  refine List.forall_mem_cons.2 ⟨.inl row81, ?_⟩
  refine List.forall_mem_cons.2 ⟨.inl row82, ?_⟩
  refine List.forall_mem_cons.2 ⟨.inl row83, ?_⟩
  refine List.forall_mem_cons.2 ⟨.inl row84, ?_⟩
  refine List.forall_mem_cons.2 ⟨.inl row85, ?_⟩
  refine List.forall_mem_cons.2 ⟨.inl row86, ?_⟩
  refine List.forall_mem_cons.2 ⟨.inl row87, ?_⟩
  refine List.forall_mem_cons.2 ⟨.inl row88, ?_⟩
  refine List.forall_mem_cons.2 ⟨.inl row89, ?_⟩
  refine List.forall_mem_cons.2 ⟨.inl row91, ?_⟩
  refine List.forall_mem_cons.2 ⟨.inl row96, ?_⟩
  refine List.forall_mem_cons.2 ⟨.inl row97, ?_⟩
  refine List.forall_mem_cons.2 ⟨.inl row98, ?_⟩
  refine List.forall_mem_cons.2 ⟨.inl row99, ?_⟩
  refine List.forall_mem_cons.2 ⟨.inl row102, ?_⟩
  refine List.forall_mem_cons.2 ⟨.inl row103, ?_⟩
  refine List.forall_mem_cons.2 ⟨.inl row109, ?_⟩
  refine List.forall_mem_cons.2 ⟨.inl row110, ?_⟩
  refine List.forall_mem_cons.2 ⟨.inl row111, ?_⟩
  refine List.forall_mem_cons.2 ⟨.inl row112, ?_⟩
  refine List.forall_mem_cons.2 ⟨.inl row113, ?_⟩
  refine List.forall_mem_cons.2 ⟨.inl row114, ?_⟩
  refine List.forall_mem_cons.2 ⟨.inl row115, ?_⟩
  refine List.forall_mem_cons.2 ⟨.inl row116, ?_⟩
  refine List.forall_mem_cons.2 ⟨.inl row117, ?_⟩
  refine List.forall_mem_cons.2 ⟨.inl row118, ?_⟩
  refine List.forall_mem_cons.2 ⟨.inl row119, ?_⟩
  refine List.forall_mem_cons.2 ⟨.inl row120, ?_⟩
  refine List.forall_mem_cons.2 ⟨.inl row121, ?_⟩
  refine List.forall_mem_cons.2 ⟨.inl row122, ?_⟩
  refine List.forall_mem_cons.2 ⟨.inl row127, ?_⟩
  refine List.forall_mem_cons.2 ⟨.inl row128, ?_⟩
  refine List.forall_mem_cons.2 ⟨.inl row129, ?_⟩
  refine List.forall_mem_cons.2 ⟨.inl row133, ?_⟩
  refine List.forall_mem_cons.2 ⟨.inl row134, ?_⟩
  refine List.forall_mem_cons.2 ⟨.inl row135, ?_⟩
  refine List.forall_mem_cons.2 ⟨.inl row136, ?_⟩
  refine List.forall_mem_cons.2 ⟨.inl row137, ?_⟩
  refine List.forall_mem_cons.2 ⟨.inl row138, ?_⟩
  refine List.forall_mem_cons.2 ⟨.inl row142, ?_⟩
  refine List.forall_mem_cons.2 ⟨.inl row143, ?_⟩
  intro p hp
  cases hp
theorem has : Has (table fnsL) := ⟨by kernel_rfl, by kernel_rfl, by kernel_rfl, by kernel_rfl, by kernel_rfl, by kernel_rfl, by kernel_rfl, by kernel_rfl, by kernel_rfl, by kernel_rfl, by kernel_rfl, by kernel_rfl, by kernel_rfl, by kernel_rfl, by kernel_rfl, by kernel_rfl, by kernel_rfl, by kernel_rfl, by kernel_rfl, by kernel_rfl, by kernel_rfl, by kernel_rfl, by kernel_rfl, by kernel_rfl, by kernel_rfl, by kernel_rfl, by kernel_rfl, by kernel_rfl, by kernel_rfl, by kernel_rfl, by kernel_rfl, by kernel_rfl, by kernel_rfl, by kernel_rfl, by kernel_rfl, by kernel_rfl, by kernel_rfl, by kernel_rfl, by kernel_rfl, by kernel_rfl, by kernel_rfl, by kernel_rfl, by kernel_rfl, by kernel_rfl, by kernel_rfl, by kernel_rfl, by kernel_rfl, by kernel_rfl, by kernel_rfl, by kernel_rfl, by kernel_rfl, by kernel_rfl, by kernel_rfl, by kernel_rfl, by kernel_rfl, by kernel_rfl, by kernel_rfl, by kernel_rfl, by kernel_rfl, by kernel_rfl, by kernel_rfl, by kernel_rfl, by kernel_rfl, by kernel_rfl, by kernel_rfl, by kernel_rfl, by kernel_rfl, by kernel_rfl, by kernel_rfl, by kernel_rfl, by kernel_rfl, by kernel_rfl⟩
theorem loads {h : T AB} {g : Nat} {cs : List AV} (hg : h.get g = some (.ro cs)) : ∀ (l : List (IntKind × Int)) (j : Nat), (∀ i k z, l[i]? = some (k, z) → cs[j + i]? = some (.int k z)) → ∀ c ∈ cellsL g j l, load1 h c.1 c.2.1 = some (.int c.2.2.1 c.2.2.2)
  | [], _, _, c, hc => by cases hc
  | (k, z) :: l, j, hl, c, hc => by
    rcases List.mem_cons.1 hc with rfl | hc
    · have := hl 0 k z rfl
      simp only [load1, cellsAt, hg, osel_some, cellsOfB, nth_eq]
      exact this
    · exact loads hg l (j + 1) (fun i k z hi => by rw [show j + 1 + i = j + (i + 1) by omega]; exact hl (i + 1) k z hi) c hc
theorem awakes {S : St} (hL : Laid S) : wpf (table fnsL) (.fn 11 [] []) [] S fun r S' => r = .bool true ∧ Same S S' := by
  refine wpf_mono (wpf_fake (l := allCells tz) (by kernel_rfl) ?_) fun r S' h => ⟨h.1, by rw [h.2]; exact Same.refl S⟩
  obtain ⟨h1, h2, _⟩ := hL
  intro c hc
  simp only [tz, allCells, List.mem_append] at hc
  rcases hc with hc | hc | hc
  · refine loads h1 _ 0 (fun i k z hi => ?_) c hc
    rw [show tabB = (([(.u8, 0), (.u8, 1), (.u8, 56), (.u8, 2), (.u8, 57), (.u8, 49), (.u8, 28), (.u8, 3), (.u8, 61), (.u8, 58), (.u8, 42), (.u8, 50), (.u8, 38), (.u8, 29), (.u8, 17), (.u8, 4), (.u8, 62), (.u8, 47), (.u8, 59), (.u8, 36), (.u8, 45), (.u8, 43), (.u8, 51), (.u8, 22), (.u8, 53), (.u8, 39), (.u8, 33), (.u8, 30), (.u8, 24), (.u8, 18), (.u8, 12), (.u8, 5), (.u8, 63), (.u8, 55), (.u8, 48), (.u8, 27), (.u8, 60), (.u8, 41), (.u8, 37), (.u8, 16), (.u8, 46), (.u8, 35), (.u8, 44), (.u8, 21), (.u8, 52), (.u8, 32), (.u8, 23), (.u8, 11), (.u8, 54), (.u8, 26), (.u8, 40), (.u8, 15), (.u8, 34), (.u8, 20), (.u8, 31), (.u8, 10), (.u8, 25), (.u8, 14), (.u8, 19), (.u8, 9), (.u8, 13), (.u8, 8), (.u8, 7), (.u8, 6)] : List (IntKind × Int)).map fun y => AV.int y.1 y.2) by kernel_rfl, Nat.zero_add, List.getElem?_map, hi]
    rfl
  · refine loads h2 _ 0 (fun i k z hi => ?_) c hc
    rw [show tabV = (([(.i64, (-1)), (.i64, 0), (.i64, 1)] : List (IntKind × Int)).map fun y => AV.int y.1 y.2) by kernel_rfl, Nat.zero_add, List.getElem?_map, hi]
    rfl
  · cases hc
theorem laidL : Laid (stL Tryd.prog awake.tabs) := ⟨by kernel_rfl, by kernel_rfl, of_decide_eq_true (by kernel_rfl)⟩

/-- THE LAW, in the evaluator. -/
theorem runs {S : St} {a0 : AV} {s0 : Bool} {l0 m0 : List Nat} {n1 : Int} {n2 : Int} (hL : Laid S) (hF : Fresh S) (h0 : RawIs S a0 s0 l0 m0) (n1w : -9223372036854775808 ≤ n1 ∧ n1 ≤ 9223372036854775807) (n2w : -9223372036854775808 ≤ n2 ∧ n2 ≤ 9223372036854775807) : wpf (table fnsL) (.fn 8 [] []) [a0, .int .i64 n1, .int .i64 n2] S fun r S' => r = .bool true ∧ Same S S' :=
  wholes_spec has hL hF (fun _ h => awakes h) h0 n1w n2w
end Go.Proofs.YtmbmidkdinllgaaDoor.ratWholes
