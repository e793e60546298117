/- 'SymmetryMaps': the table of functions that the law reaches; the call of lives stands for itself. -/
import Derived.Test.YtoojnpjgnnpllaaGl10
import Derived.Test.YtoojnpjgnnpllaaLives14Run
namespace Go.Proofs.Ytoojnpjgnnpllaa.symmetryMaps
open Go.Ev Go.Ev.Gl
set_option maxRecDepth 100000
def tz : List (Nat × List (IntKind × Int)) := []
theorem tabs_eq : lives14.tabs = tz.map fun x => (x.1, x.2.map fun y => AV.int y.1 y.2) := by kernel_rfl
theorem tz_ok : ∀ x ∈ tz, x.1 < Try.prog.globals.size ∧ x.2 ≠ [] := fun x hx => by cases hx
noncomputable def fnsL : List (Nat × AFn) := (14, fakeFn (allCells tz)) :: [(5, a5), (17, a17), (18, a18), (19, a19), (20, a20), (21, a21), (22, a22), (25, a25), (26, a26), (27, a27), (28, a28), (29, a29), (30, a30), (53, a53), (68, a68), (69, a69), (70, a70), (72, a72), (73, a73), (74, a74), (102, a102), (103, a103), (104, a104), (116, a116), (119, a119), (120, a120), (131, a131), (152, a152), (155, a155), (156, a156), (157, a157), (158, a158), (159, a159), (162, a162), (163, a163), (164, a164), (165, a165), (173, a173), (174, a174), (175, a175), (176, a176), (177, a177), (180, a180), (181, a181), (182, a182), (183, a183), (184, a184), (185, a185), (186, a186)]
theorem knows : Known Try.prog (table fnsL) := by
  refine known_table2 (by kernel_rfl) ?_
  have hf : Faked Try.prog (table fnsL) 14 (fakeFn (allCells tz)) := faked_of_good Try.func14 lives14.body tabs_eq tz_ok lives14.good
  have e : fnsL = (14, fakeFn (allCells tz)) :: [(5, a5), (17, a17), (18, a18), (19, a19), (20, a20), (21, a21), (22, a22), (25, a25), (26, a26), (27, a27), (28, a28), (29, a29), (30, a30), (53, a53), (68, a68), (69, a69), (70, a70), (72, a72), (73, a73), (74, a74), (102, a102), (103, a103), (104, a104), (116, a116), (119, a119), (120, a120), (131, a131), (152, a152), (155, a155), (156, a156), (157, a157), (158, a158), (159, a159), (162, a162), (163, a163), (164, a164), (165, a165), (173, a173), (174, a174), (175, a175), (176, a176), (177, a177), (180, a180), (181, a181), (182, a182), (183, a183), (184, a184), (185, a185), (186, a186)] := rfl
  generalize table fnsL = t at hf ⊢
  rw [e]
  refine List.forall_mem_cons.2 ⟨.inr hf, ?_⟩
  refine List.forall_mem_cons.2 ⟨.inl row5, ?_⟩
  refine List.forall_mem_cons.2 ⟨.inl row17, ?_⟩
  refine List.forall_mem_cons.2 ⟨.inl row18, ?_⟩
  refine List.forall_mem_cons.2 ⟨.inl row19, ?_⟩
  refine List.forall_mem_cons.2 ⟨.inl row20, ?_⟩
  refine List.forall_mem_cons.2 ⟨.inl row21, ?_⟩
  refine List.forall_mem_cons.2 ⟨.inl row22, ?_⟩
  refine List.forall_mem_cons.2 ⟨.inl row25, ?_⟩
  refine List.forall_mem_cons.2 ⟨.inl row26, ?_⟩
  refine List.forall_mem_cons.2 ⟨.inl row27, ?_⟩
  refine List.forall_mem_cons.2 ⟨.inl row28, ?_⟩
  refine List.forall_mem_cons.2 ⟨.inl row29, ?_⟩
  refine List.forall_mem_cons.2 ⟨.inl row30, ?_⟩
  refine List.forall_mem_cons.2 ⟨.inl row53, ?_⟩
  refine List.forall_mem_cons.2 ⟨.inl row68, ?_⟩
  refine List.forall_mem_cons.2 ⟨.inl row69, ?_⟩
  refine List.forall_mem_cons.2 ⟨.inl row70, ?_⟩
  refine List.forall_mem_cons.2 ⟨.inl row72, ?_⟩
  refine List.forall_mem_cons.2 ⟨.inl row73, ?_⟩
  refine List.forall_mem_cons.2 ⟨.inl row74, ?_⟩
  refine List.forall_mem_cons.2 ⟨.inl row102, ?_⟩
  refine List.forall_mem_cons.2 ⟨.inl row103, ?_⟩
  refine List.forall_mem_cons.2 ⟨.inl row104, ?_⟩
  refine List.forall_mem_cons.2 ⟨.inl row116, ?_⟩
  refine List.forall_mem_cons.2 ⟨.inl row119, ?_⟩
  refine List.forall_mem_cons.2 ⟨.inl row120, ?_⟩
  refine List.forall_mem_cons.2 ⟨.inl row131, ?_⟩
  refine List.forall_mem_cons.2 ⟨.inl row152, ?_⟩
  refine List.forall_mem_cons.2 ⟨.inl row155, ?_⟩
  refine List.forall_mem_cons.2 ⟨.inl row156, ?_⟩
  refine List.forall_mem_cons.2 ⟨.inl row157, ?_⟩
  refine List.forall_mem_cons.2 ⟨.inl row158, ?_⟩
  refine List.forall_mem_cons.2 ⟨.inl row159, ?_⟩
  refine List.forall_mem_cons.2 ⟨.inl row162, ?_⟩
  refine List.forall_mem_cons.2 ⟨.inl row163, ?_⟩
  refine List.forall_mem_cons.2 ⟨.inl row164, ?_⟩
  refine List.forall_mem_cons.2 ⟨.inl row165, ?_⟩
  refine List.forall_mem_cons.2 ⟨.inl row173, ?_⟩
  refine List.forall_mem_cons.2 ⟨.inl row174, ?_⟩
  refine List.forall_mem_cons.2 ⟨.inl row175, ?_⟩
  refine List.forall_mem_cons.2 ⟨.inl row176, ?_⟩
  refine List.forall_mem_cons.2 ⟨.inl row177, ?_⟩
  refine List.forall_mem_cons.2 ⟨.inl row180, ?_⟩
  refine List.forall_mem_cons.2 ⟨.inl row181, ?_⟩
  refine List.forall_mem_cons.2 ⟨.inl row182, ?_⟩
  refine List.forall_mem_cons.2 ⟨.inl row183, ?_⟩
  refine List.forall_mem_cons.2 ⟨.inl row184, ?_⟩
  refine List.forall_mem_cons.2 ⟨.inl row185, ?_⟩
  refine List.forall_mem_cons.2 ⟨.inl row186, ?_⟩
  intro p hp
  cases hp
theorem has : Has (table fnsL) := ⟨by kernel_rfl, by kernel_rfl, by kernel_rfl, by kernel_rfl, by kernel_rfl, by kernel_rfl, by kernel_rfl, by kernel_rfl, by kernel_rfl, by kernel_rfl, by kernel_rfl, by kernel_rfl, by kernel_rfl, by kernel_rfl, by kernel_rfl, by kernel_rfl, by kernel_rfl, by kernel_rfl, by kernel_rfl, by kernel_rfl, by kernel_rfl, by kernel_rfl, by kernel_rfl, by kernel_rfl, by kernel_rfl, by kernel_rfl, by kernel_rfl, by kernel_rfl, by kernel_rfl, by kernel_rfl, by kernel_rfl, by kernel_rfl, by kernel_rfl, by kernel_rfl, by kernel_rfl, by kernel_rfl, by kernel_rfl, by kernel_rfl, by kernel_rfl, by kernel_rfl, by kernel_rfl, by kernel_rfl, by kernel_rfl, by kernel_rfl, by kernel_rfl, by kernel_rfl, by kernel_rfl, by kernel_rfl, by kernel_rfl⟩
theorem livesOk (S : St) : wpf (table fnsL) (.fn 14 [] []) [] S fun r S' => r = .bool true ∧ Same S S' :=
  wpf_mono (wpf_fake (l := allCells tz) (by kernel_rfl) (fun c hc => by cases hc)) fun r S' h => ⟨h.1, by rw [h.2]; exact Same.refl S⟩
/-- THE LAW, in the evaluator. -/
theorem runs {S : St} {nv0 iv0 : AV} {g0 : PGame} {a1 : AV} {l1 : List Int} {a2 : AV} {l2 : List Int} (hn0 : IsSlG 6 NodeE S nv0 g0.nodes) (hi0 : IsSlG 2 InfoE S iv0 g0.infos) (h1 : IsSl .i64 S a1 l1) (h2 : IsSl .i64 S a2 l2) : wpf (table fnsL) (.fn 5 [] []) [.agg [.int .i64 g0.players, nv0, iv0], a1, a2] S fun r S' => r = .bool true ∧ Same S S' :=
  maps_spec has livesOk hn0 hi0 h1 h2
end Go.Proofs.Ytoojnpjgnnpllaa.symmetryMaps
