/- 'RatBack': the table of functions that the law reaches; the call of awake stands for itself, where the tables lie. -/
import Derived.Test.YtmbmidkdinllgaaDoorGl6
import Derived.Test.YtmbmidkdinllgaaDoorAwakeRun
namespace Go.Proofs.YtmbmidkdinllgaaDoor.ratBack
open Go.Ev Go.Ev.Gl
set_option maxRecDepth 100000
def tz : List (Nat × List (IntKind × Int)) := [(2, [(.u8, 0), (.u8, 1), (.u8, 56), (.u8, 2), (.u8, 57), (.u8, 49), (.u8, 28), (.u8, 3), (.u8, 61), (.u8, 58), (.u8, 42), (.u8, 50), (.u8, 38), (.u8, 29), (.u8, 17), (.u8, 4), (.u8, 62), (.u8, 47), (.u8, 59), (.u8, 36), (.u8, 45), (.u8, 43), (.u8, 51), (.u8, 22), (.u8, 53), (.u8, 39), (.u8, 33), (.u8, 30), (.u8, 24), (.u8, 18), (.u8, 12), (.u8, 5), (.u8, 63), (.u8, 55), (.u8, 48), (.u8, 27), (.u8, 60), (.u8, 41), (.u8, 37), (.u8, 16), (.u8, 46), (.u8, 35), (.u8, 44), (.u8, 21), (.u8, 52), (.u8, 32), (.u8, 23), (.u8, 11), (.u8, 54), (.u8, 26), (.u8, 40), (.u8, 15), (.u8, 34), (.u8, 20), (.u8, 31), (.u8, 10), (.u8, 25), (.u8, 14), (.u8, 19), (.u8, 9), (.u8, 13), (.u8, 8), (.u8, 7), (.u8, 6)]), (1, [(.u8, 48), (.u8, 49), (.u8, 50), (.u8, 51), (.u8, 52), (.u8, 53), (.u8, 54), (.u8, 55), (.u8, 56), (.u8, 57)]), (0, [(.i64, (-1)), (.i64, 0), (.i64, 1)])]
theorem tabs_eq : awake.tabs = tz.map fun x => (x.1, x.2.map fun y => AV.int y.1 y.2) := by kernel_rfl
theorem tz_ok : ∀ x ∈ tz, x.1 < Tryd.prog.globals.size ∧ x.2 ≠ [] := by
  have hg : Tryd.prog.globals.size = 4 := by kernel_rfl
  rw [hg]
  decide
noncomputable def fnsL : List (Nat × AFn) := (11, fakeFn (allCells tz)) :: [(9, a9), (14, a14), (16, a16), (19, a19), (26, a26), (31, a31), (33, a33), (34, a34), (35, a35), (38, a38), (41, a41), (47, a47), (48, a48), (50, a50), (52, a52), (55, a55), (60, a60), (61, a61), (62, a62), (63, a63), (64, a64), (66, a66), (67, a67), (74, a74), (75, a75), (78, a78), (80, a80), (81, a81), (90, a90), (91, a91), (92, a92), (93, a93), (94, a94), (95, a95), (96, a96), (97, a97), (98, a98), (99, a99), (100, a100), (103, a103), (104, a104), (105, a105), (106, a106), (107, a107), (108, a108), (113, a113), (114, a114), (115, a115), (116, a116), (119, a119), (120, a120), (124, a124), (125, a125), (126, a126), (127, a127), (128, a128), (129, a129), (130, a130), (131, a131), (132, a132), (134, a134), (135, a135), (136, a136), (137, a137), (139, a139), (140, a140), (141, a141), (142, a142), (143, a143), (144, a144), (146, a146), (147, a147), (149, a149)]
theorem knows : Known Tryd.prog (table fnsL) := by
  refine known_table2 (by kernel_rfl) ?_
  have hf : Faked Tryd.prog (table fnsL) 11 (fakeFn (allCells tz)) := faked_of_good Tryd.func11 awake.body tabs_eq tz_ok awake.good
  have e : fnsL = (11, fakeFn (allCells tz)) :: [(9, a9), (14, a14), (16, a16), (19, a19), (26, a26), (31, a31), (33, a33), (34, a34), (35, a35), (38, a38), (41, a41), (47, a47), (48, a48), (50, a50), (52, a52), (55, a55), (60, a60), (61, a61), (62, a62), (63, a63), (64, a64), (66, a66), (67, a67), (74, a74), (75, a75), (78, a78), (80, a80), (81, a81), (90, a90), (91, a91), (92, a92), (93, a93), (94, a94), (95, a95), (96, a96), (97, a97), (98, a98), (99, a99), (100, a100), (103, a103), (104, a104), (105, a105), (106, a106), (107, a107), (108, a108), (113, a113), (114, a114), (115, a115), (116, a116), (119, a119), (120, a120), (124, a124), (125, a125), (126, a126), (127, a127), (128, a128), (129, a129), (130, a130), (131, a131), (132, a132), (134, a134), (135, a135), (136, a136), (137, a137), (139, a139), (140, a140), (141, a141), (142, a142), (143, a143), (144, a144), (146, a146), (147, a147), (149, a149)] := rfl
  generalize table fnsL = t at hf ⊢
  rw [e]
  refine List.forall_mem_cons.2 ⟨.inr hf, ?_⟩
  refine List.forall_mem_cons.2 ⟨.inl row9, ?_⟩
  refine List.forall_mem_cons.2 ⟨.inl row14, ?_⟩
  refine List.forall_mem_cons.2 ⟨.inl row16, ?_⟩
  refine List.forall_mem_cons.2 ⟨.inl row19, ?_⟩
  refine List.forall_mem_cons.2 ⟨.inl row26, ?_⟩
  refine List.forall_mem_cons.2 ⟨.inl row31, ?_⟩
  refine List.forall_mem_cons.2 ⟨.inl row33, ?_⟩
  refine List.forall_mem_cons.2 ⟨.inl row34, ?_⟩
  refine List.forall_mem_cons.2 ⟨.inl row35, ?_⟩
  refine List.forall_mem_cons.2 ⟨.inl row38, ?_⟩
  refine List.forall_mem_cons.2 ⟨.inl row41, ?_⟩
  refine List.forall_mem_cons.2 ⟨.inl row47, ?_⟩
  refine List.forall_mem_cons.2 ⟨.inl row48, ?_⟩
  refine List.forall_mem_cons.2 ⟨.inl row50, ?_⟩
  refine List.forall_mem_cons.2 ⟨.inl row52, ?_⟩
  refine List.forall_mem_cons.2 ⟨.inl row55, ?_⟩
  refine List.forall_mem_cons.2 ⟨.inl row60, ?_⟩
  refine List.forall_mem_cons.2 ⟨.inl row61, ?_⟩
  refine List.forall_mem_cons.2 ⟨.inl row62, ?_⟩
  refine List.forall_mem_cons.2 ⟨.inl row63, ?_⟩
  refine List.forall_mem_cons.2 ⟨.inl row64, ?_⟩
  refine List.forall_mem_cons.2 ⟨.inl row66, ?_⟩
  refine List.forall_mem_cons.2 ⟨.inl row67, ?_⟩
  refine List.forall_mem_cons.2 ⟨.inl row74, ?_⟩
  refine List.forall_mem_cons.2 ⟨.inl row75, ?_⟩
  refine List.forall_mem_cons.2 ⟨.inl row78, ?_⟩
  refine List.forall_mem_cons.2 ⟨.inl row80, ?_⟩
  refine List.forall_mem_cons.2 ⟨.inl row81, ?_⟩
  refine List.forall_mem_cons.2 ⟨.inl row90, ?_⟩
  refine List.forall_mem_cons.2 ⟨.inl row91, ?_⟩
  refine List.forall_mem_cons.2 ⟨.inl row92, ?_⟩
  refine List.forall_mem_cons.2 ⟨.inl row93, ?_⟩
  refine List.forall_mem_cons.2 ⟨.inl row94, ?_⟩
  refine List.forall_mem_cons.2 ⟨.inl row95, ?_⟩
  refine List.forall_mem_cons.2 ⟨.inl row96, ?_⟩
  refine List.forall_mem_cons.2 ⟨.inl row97, ?_⟩
  refine List.forall_mem_cons.2 ⟨.inl row98, ?_⟩
  refine List.forall_mem_cons.2 ⟨.inl row99, ?_⟩
  refine List.forall_mem_cons.2 ⟨.inl row100, ?_⟩
  refine List.forall_mem_cons.2 ⟨.inl row103, ?_⟩
  refine List.forall_mem_cons.2 ⟨.inl row104, ?_⟩
  refine List.forall_mem_cons.2 ⟨.inl row105, ?_⟩
  refine List.forall_mem_cons.2 ⟨.inl row106, ?_⟩
  refine List.forall_mem_cons.2 ⟨.inl row107, ?_⟩
  refine List.forall_mem_cons.2 ⟨.inl row108, ?_⟩
  refine List.forall_mem_cons.2 ⟨.inl row113, ?_⟩
  refine List.forall_mem_cons.2 ⟨.inl row114, ?_⟩
  refine List.forall_mem_cons.2 ⟨.inl row115, ?_⟩
  refine List.forall_mem_cons.2 ⟨.inl row116, ?_⟩
  refine List.forall_mem_cons.2 ⟨.inl row119, ?_⟩
  refine List.forall_mem_cons.2 ⟨.inl row120, ?_⟩
  refine List.forall_mem_cons.2 ⟨.inl row124, ?_⟩
  refine List.forall_mem_cons.2 ⟨.inl row125, ?_⟩
  refine List.forall_mem_cons.2 ⟨.inl row126, ?_⟩
  refine List.forall_mem_cons.2 ⟨.inl row127, ?_⟩
  refine List.forall_mem_cons.2 ⟨.inl row128, ?_⟩
  refine List.forall_mem_cons.2 ⟨.inl row129, ?_⟩
  refine List.forall_mem_cons.2 ⟨.inl row130, ?_⟩
  refine List.forall_mem_cons.2 ⟨.inl row131, ?_⟩
  refine List.forall_mem_cons.2 ⟨.inl row132, ?_⟩
  refine List.forall_mem_cons.2 ⟨.inl row134, ?_⟩
  refine List.forall_mem_cons.2 ⟨.inl row135, ?_⟩
  refine List.forall_mem_cons.2 ⟨.inl row136, ?_⟩
  refine List.forall_mem_cons.2 ⟨.inl row137, ?_⟩
  refine List.forall_mem_cons.2 ⟨.inl row139, ?_⟩
  refine List.forall_mem_cons.2 ⟨.inl row140, ?_⟩
  refine List.forall_mem_cons.2 ⟨.inl row141, ?_⟩
  refine List.forall_mem_cons.2 ⟨.inl row142, ?_⟩
  refine List.forall_mem_cons.2 ⟨.inl row143, ?_⟩
  refine List.forall_mem_cons.2 ⟨.inl row144, ?_⟩
  refine List.forall_mem_cons.2 ⟨.inl row146, ?_⟩
  refine List.forall_mem_cons.2 ⟨.inl row147, ?_⟩
  refine List.forall_mem_cons.2 ⟨.inl row149, ?_⟩
  intro p hp
  cases hp
theorem has : Has (table fnsL) := ⟨by kernel_rfl, by kernel_rfl, by kernel_rfl, by kernel_rfl, by kernel_rfl, by kernel_rfl, by kernel_rfl, by kernel_rfl, by kernel_rfl, by kernel_rfl, by kernel_rfl, by kernel_rfl, by kernel_rfl, by kernel_rfl, by kernel_rfl, by kernel_rfl, by kernel_rfl, by kernel_rfl, by kernel_rfl, by kernel_rfl, by kernel_rfl, by kernel_rfl, by kernel_rfl, by kernel_rfl, by kernel_rfl, by kernel_rfl, by kernel_rfl, by kernel_rfl, by kernel_rfl, by kernel_rfl, by kernel_rfl, by kernel_rfl, by kernel_rfl, by kernel_rfl, by kernel_rfl, by kernel_rfl, by kernel_rfl, by kernel_rfl, by kernel_rfl, by kernel_rfl, by kernel_rfl, by kernel_rfl, by kernel_rfl, by kernel_rfl, by kernel_rfl, by kernel_rfl, by kernel_rfl, by kernel_rfl, by kernel_rfl, by kernel_rfl, by kernel_rfl, by kernel_rfl, by kernel_rfl, by kernel_rfl, by kernel_rfl, by kernel_rfl, by kernel_rfl, by kernel_rfl, by kernel_rfl, by kernel_rfl, by kernel_rfl, by kernel_rfl, by kernel_rfl, by kernel_rfl, by kernel_rfl, by kernel_rfl, by kernel_rfl, by kernel_rfl, by kernel_rfl, by kernel_rfl, by kernel_rfl, by kernel_rfl, by kernel_rfl⟩
theorem loads {h : T AB} {g : Nat} {cs : List AV} (hg : h.get g = some (.ro cs)) : ∀ (l : List (IntKind × Int)) (j : Nat), (∀ i k z, l[i]? = some (k, z) → cs[j + i]? = some (.int k z)) → ∀ c ∈ cellsL g j l, load1 h c.1 c.2.1 = some (.int c.2.2.1 c.2.2.2)
  | [], _, _, c, hc => by cases hc
  | (k, z) :: l, j, hl, c, hc => by
    rcases List.mem_cons.1 hc with rfl | hc
    · have := hl 0 k z rfl
      simp only [load1, cellsAt, hg, osel_some, cellsOfB, nth_eq]
      exact this
    · exact loads hg l (j + 1) (fun i k z hi => by rw [show j + 1 + i = j + (i + 1) by omega]; exact hl (i + 1) k z hi) c hc
theorem awakes {S : St} (hL : Laid S) (hT : DigT S) : wpf (table fnsL) (.fn 11 [] []) [] S fun r S' => r = .bool true ∧ Same S S' := by
  refine wpf_mono (wpf_fake (l := allCells tz) (by kernel_rfl) ?_) fun r S' h => ⟨h.1, by rw [h.2]; exact Same.refl S⟩
  obtain ⟨h1, h2, _⟩ := hL
  intro c hc
  simp only [tz, allCells, List.mem_append] at hc
  rcases hc with hc | hc | hc | hc
  · refine loads h1 _ 0 (fun i k z hi => ?_) c hc
    rw [show tabB = (([(.u8, 0), (.u8, 1), (.u8, 56), (.u8, 2), (.u8, 57), (.u8, 49), (.u8, 28), (.u8, 3), (.u8, 61), (.u8, 58), (.u8, 42), (.u8, 50), (.u8, 38), (.u8, 29), (.u8, 17), (.u8, 4), (.u8, 62), (.u8, 47), (.u8, 59), (.u8, 36), (.u8, 45), (.u8, 43), (.u8, 51), (.u8, 22), (.u8, 53), (.u8, 39), (.u8, 33), (.u8, 30), (.u8, 24), (.u8, 18), (.u8, 12), (.u8, 5), (.u8, 63), (.u8, 55), (.u8, 48), (.u8, 27), (.u8, 60), (.u8, 41), (.u8, 37), (.u8, 16), (.u8, 46), (.u8, 35), (.u8, 44), (.u8, 21), (.u8, 52), (.u8, 32), (.u8, 23), (.u8, 11), (.u8, 54), (.u8, 26), (.u8, 40), (.u8, 15), (.u8, 34), (.u8, 20), (.u8, 31), (.u8, 10), (.u8, 25), (.u8, 14), (.u8, 19), (.u8, 9), (.u8, 13), (.u8, 8), (.u8, 7), (.u8, 6)] : List (IntKind × Int)).map fun y => AV.int y.1 y.2) by kernel_rfl, Nat.zero_add, List.getElem?_map, hi]
    rfl
  · refine loads hT.1 _ 0 (fun i k z hi => ?_) c hc
    rw [show tabD = (([(.u8, 48), (.u8, 49), (.u8, 50), (.u8, 51), (.u8, 52), (.u8, 53), (.u8, 54), (.u8, 55), (.u8, 56), (.u8, 57)] : List (IntKind × Int)).map fun y => AV.int y.1 y.2) by kernel_rfl, Nat.zero_add, List.getElem?_map, hi]
    rfl
  · refine loads h2 _ 0 (fun i k z hi => ?_) c hc
    rw [show tabV = (([(.i64, (-1)), (.i64, 0), (.i64, 1)] : List (IntKind × Int)).map fun y => AV.int y.1 y.2) by kernel_rfl, Nat.zero_add, List.getElem?_map, hi]
    rfl
  · cases hc
theorem laidL : Laid (stL Tryd.prog awake.tabs) := ⟨by kernel_rfl, by kernel_rfl, of_decide_eq_true (by kernel_rfl)⟩
theorem digL : DigT (stL Tryd.prog awake.tabs) := ⟨by kernel_rfl, of_decide_eq_true (by kernel_rfl)⟩

/-- THE LAW, in the evaluator. -/
theorem runs {S : St} {a0 a1 : AV} {l0 : List Nat} {l1 : List Nat} {n2 : Bool} {n3 : Int} (hL : Laid S) (hT : DigT S) (hF : Fresh S) (h0 : LimbIs S a0 l0) (h1 : LimbIs S a1 l1) (n3w : -9223372036854775808 ≤ n3 ∧ n3 ≤ 9223372036854775807) : wpf (table fnsL) (.fn 9 [] []) [a0, a1, .bool n2, .int .i64 n3] S fun r S' => r = .bool true ∧ Same S S' :=
  back_spec has hL hT hF (fun _ h t => awakes h t) h0 h1 n3w
end Go.Proofs.YtmbmidkdinllgaaDoor.ratBack
