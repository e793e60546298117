/- 'DealWalks': the table of functions that the law reaches; the call of lives stands for itself. -/
import Derived.Test.YtoojnpjgnnpllaaGl14
import Derived.Test.YtoojnpjgnnpllaaLives32Run
namespace Go.Proofs.Ytoojnpjgnnpllaa.dealWalks
open Go.Ev Go.Ev.Gl
set_option maxRecDepth 100000
def tz : List (Nat × List (IntKind × Int)) := []
theorem tabs_eq : lives32.tabs = tz.map fun x => (x.1, x.2.map fun y => AV.int y.1 y.2) := by kernel_rfl
theorem tz_ok : ∀ x ∈ tz, x.1 < Try.prog.globals.size ∧ x.2 ≠ [] := fun x hx => by cases hx
noncomputable def fnsL : List (Nat × AFn) := (32, fakeFn (allCells tz)) :: [(6, a6), (19, a19), (30, a30), (31, a31), (33, a33), (34, a34), (35, a35), (36, a36), (53, a53), (79, a79), (80, a80), (81, a81), (82, a82), (83, a83), (84, a84), (85, a85), (87, a87), (102, a102), (103, a103), (104, a104), (122, a122), (123, a123), (124, a124), (125, a125), (126, a126), (127, a127), (131, a131), (134, a134), (160, a160), (161, a161), (162, a162), (163, a163), (164, a164), (165, a165), (172, a172), (173, a173), (174, a174), (175, a175), (176, a176), (177, a177), (180, a180), (181, a181), (182, a182), (183, a183), (184, a184), (185, a185), (186, a186), (203, a203), (204, a204), (205, a205), (206, a206), (207, a207), (209, a209)]
theorem knows : Known Try.prog (table fnsL) := by
  refine known_table2 (by kernel_rfl) ?_
  have hf : Faked Try.prog (table fnsL) 32 (fakeFn (allCells tz)) := faked_of_good Try.func32 lives32.body tabs_eq tz_ok lives32.good
  have e : fnsL = (32, fakeFn (allCells tz)) :: [(6, a6), (19, a19), (30, a30), (31, a31), (33, a33), (34, a34), (35, a35), (36, a36), (53, a53), (79, a79), (80, a80), (81, a81), (82, a82), (83, a83), (84, a84), (85, a85), (87, a87), (102, a102), (103, a103), (104, a104), (122, a122), (123, a123), (124, a124), (125, a125), (126, a126), (127, a127), (131, a131), (134, a134), (160, a160), (161, a161), (162, a162), (163, a163), (164, a164), (165, a165), (172, a172), (173, a173), (174, a174), (175, a175), (176, a176), (177, a177), (180, a180), (181, a181), (182, a182), (183, a183), (184, a184), (185, a185), (186, a186), (203, a203), (204, a204), (205, a205), (206, a206), (207, a207), (209, a209)] := rfl
  generalize table fnsL = t at hf ⊢
  rw [e]
  refine List.forall_mem_cons.2 ⟨.inr hf, ?_⟩
  refine List.forall_mem_cons.2 ⟨.inl row6, ?_⟩
  refine List.forall_mem_cons.2 ⟨.inl row19, ?_⟩
  refine List.forall_mem_cons.2 ⟨.inl row30, ?_⟩
  refine List.forall_mem_cons.2 ⟨.inl row31, ?_⟩
  refine List.forall_mem_cons.2 ⟨.inl row33, ?_⟩
  refine List.forall_mem_cons.2 ⟨.inl row34, ?_⟩
  refine List.forall_mem_cons.2 ⟨.inl row35, ?_⟩
  refine List.forall_mem_cons.2 ⟨.inl row36, ?_⟩
  refine List.forall_mem_cons.2 ⟨.inl row53, ?_⟩
  refine List.forall_mem_cons.2 ⟨.inl row79, ?_⟩
  refine List.forall_mem_cons.2 ⟨.inl row80, ?_⟩
  refine List.forall_mem_cons.2 ⟨.inl row81, ?_⟩
  refine List.forall_mem_cons.2 ⟨.inl row82, ?_⟩
  refine List.forall_mem_cons.2 ⟨.inl row83, ?_⟩
  refine List.forall_mem_cons.2 ⟨.inl row84, ?_⟩
  refine List.forall_mem_cons.2 ⟨.inl row85, ?_⟩
  refine List.forall_mem_cons.2 ⟨.inl row87, ?_⟩
  refine List.forall_mem_cons.2 ⟨.inl row102, ?_⟩
  refine List.forall_mem_cons.2 ⟨.inl row103, ?_⟩
  refine List.forall_mem_cons.2 ⟨.inl row104, ?_⟩
  refine List.forall_mem_cons.2 ⟨.inl row122, ?_⟩
  refine List.forall_mem_cons.2 ⟨.inl row123, ?_⟩
  refine List.forall_mem_cons.2 ⟨.inl row124, ?_⟩
  refine List.forall_mem_cons.2 ⟨.inl row125, ?_⟩
  refine List.forall_mem_cons.2 ⟨.inl row126, ?_⟩
  refine List.forall_mem_cons.2 ⟨.inl row127, ?_⟩
  refine List.forall_mem_cons.2 ⟨.inl row131, ?_⟩
  refine List.forall_mem_cons.2 ⟨.inl row134, ?_⟩
  refine List.forall_mem_cons.2 ⟨.inl row160, ?_⟩
  refine List.forall_mem_cons.2 ⟨.inl row161, ?_⟩
  refine List.forall_mem_cons.2 ⟨.inl row162, ?_⟩
  refine List.forall_mem_cons.2 ⟨.inl row163, ?_⟩
  refine List.forall_mem_cons.2 ⟨.inl row164, ?_⟩
  refine List.forall_mem_cons.2 ⟨.inl row165, ?_⟩
  refine List.forall_mem_cons.2 ⟨.inl row172, ?_⟩
  refine List.forall_mem_cons.2 ⟨.inl row173, ?_⟩
  refine List.forall_mem_cons.2 ⟨.inl row174, ?_⟩
  refine List.forall_mem_cons.2 ⟨.inl row175, ?_⟩
  refine List.forall_mem_cons.2 ⟨.inl row176, ?_⟩
  refine List.forall_mem_cons.2 ⟨.inl row177, ?_⟩
  refine List.forall_mem_cons.2 ⟨.inl row180, ?_⟩
  refine List.forall_mem_cons.2 ⟨.inl row181, ?_⟩
  refine List.forall_mem_cons.2 ⟨.inl row182, ?_⟩
  refine List.forall_mem_cons.2 ⟨.inl row183, ?_⟩
  refine List.forall_mem_cons.2 ⟨.inl row184, ?_⟩
  refine List.forall_mem_cons.2 ⟨.inl row185, ?_⟩
  refine List.forall_mem_cons.2 ⟨.inl row186, ?_⟩
  refine List.forall_mem_cons.2 ⟨.inl row203, ?_⟩
  refine List.forall_mem_cons.2 ⟨.inl row204, ?_⟩
  refine List.forall_mem_cons.2 ⟨.inl row205, ?_⟩
  refine List.forall_mem_cons.2 ⟨.inl row206, ?_⟩
  refine List.forall_mem_cons.2 ⟨.inl row207, ?_⟩
  refine List.forall_mem_cons.2 ⟨.inl row209, ?_⟩
  intro p hp
  cases hp
theorem has : Has (table fnsL) := ⟨by kernel_rfl, by kernel_rfl, by kernel_rfl, by kernel_rfl, by kernel_rfl, by kernel_rfl, by kernel_rfl, by kernel_rfl, by kernel_rfl, by kernel_rfl, by kernel_rfl, by kernel_rfl, by kernel_rfl, by kernel_rfl, by kernel_rfl, by kernel_rfl, by kernel_rfl, by kernel_rfl, by kernel_rfl, by kernel_rfl, by kernel_rfl, by kernel_rfl, by kernel_rfl, by kernel_rfl, by kernel_rfl, by kernel_rfl, by kernel_rfl, by kernel_rfl, by kernel_rfl, by kernel_rfl, by kernel_rfl, by kernel_rfl, by kernel_rfl, by kernel_rfl, by kernel_rfl, by kernel_rfl, by kernel_rfl, by kernel_rfl, by kernel_rfl, by kernel_rfl, by kernel_rfl, by kernel_rfl, by kernel_rfl, by kernel_rfl, by kernel_rfl, by kernel_rfl, by kernel_rfl, by kernel_rfl, by kernel_rfl, by kernel_rfl, by kernel_rfl, by kernel_rfl, by kernel_rfl⟩
theorem livesOk (S : St) : wpf (table fnsL) (.fn 32 [] []) [] S fun r S' => r = .bool true ∧ Same S S' :=
  wpf_mono (wpf_fake (l := allCells tz) (by kernel_rfl) (fun c hc => by cases hc)) fun r S' h => ⟨h.1, by rw [h.2]; exact Same.refl S⟩
/-- THE LAW, in the evaluator. -/
theorem runs {S : St} {nv0 iv0 : AV} {g0 : PGame} {tv1 : AV} {b1 : Int} {l1 : List (List Int)} {n2 : Int} (hn0 : IsSlG 6 NodeE S nv0 g0.nodes) (hi0 : IsSlG 2 InfoE S iv0 g0.infos) (ht0 : Tame g0) (h1 : IsSlG 1 SlE S tv1 l1) (n2w : -9223372036854775808 ≤ n2 ∧ n2 ≤ 9223372036854775807) : wpf (table fnsL) (.fn 6 [] []) [.agg [.int .i64 g0.players, nv0, iv0], .agg [.int .i64 b1, tv1], .int .i64 n2] S fun r S' => r = .bool true ∧ Same S S' :=
  walks_spec has livesOk hn0 hi0 h1 n2w.2
end Go.Proofs.Ytoojnpjgnnpllaa.dealWalks
