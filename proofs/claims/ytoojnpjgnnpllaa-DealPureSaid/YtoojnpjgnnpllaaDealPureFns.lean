/- 'DealPure': the table of functions that the law reaches; the call of lives stands for itself. -/
import Derived.Test.YtoojnpjgnnpllaaGl19
import Derived.Test.YtoojnpjgnnpllaaLives32Run
namespace Go.Proofs.Ytoojnpjgnnpllaa.dealPure
open Go.Ev Go.Ev.Gl
set_option maxRecDepth 100000
def tz : List (Nat × List (IntKind × Int)) := []
theorem tabs_eq : lives32.tabs = tz.map fun x => (x.1, x.2.map fun y => AV.int y.1 y.2) := by kernel_rfl
theorem tz_ok : ∀ x ∈ tz, x.1 < Try.prog.globals.size ∧ x.2 ≠ [] := fun x hx => by cases hx
noncomputable def fnsL : List (Nat × AFn) := (32, fakeFn (allCells tz)) :: [(8, a8), (16, a16), (19, a19), (23, a23), (33, a33), (35, a35), (37, a37), (38, a38), (39, a39), (40, a40), (79, a79), (80, a80), (84, a84), (86, a86), (87, a87), (88, a88), (89, a89), (90, a90), (122, a122), (123, a123), (124, a124), (127, a127), (128, a128), (129, a129), (130, a130), (131, a131), (132, a132), (133, a133), (134, a134), (160, a160), (161, a161), (162, a162), (163, a163), (164, a164), (165, a165), (172, a172), (173, a173), (174, a174), (175, a175), (176, a176), (177, a177), (180, a180), (181, a181), (182, a182), (183, a183), (184, a184), (185, a185), (186, a186), (203, a203), (204, a204), (205, a205), (206, a206), (207, a207), (209, a209)]
theorem knows : Known Try.prog (table fnsL) := by
  refine known_table2 (by kernel_rfl) ?_
  have hf : Faked Try.prog (table fnsL) 32 (fakeFn (allCells tz)) := faked_of_good Try.func32 lives32.body tabs_eq tz_ok lives32.good
  have e : fnsL = (32, fakeFn (allCells tz)) :: [(8, a8), (16, a16), (19, a19), (23, a23), (33, a33), (35, a35), (37, a37), (38, a38), (39, a39), (40, a40), (79, a79), (80, a80), (84, a84), (86, a86), (87, a87), (88, a88), (89, a89), (90, a90), (122, a122), (123, a123), (124, a124), (127, a127), (128, a128), (129, a129), (130, a130), (131, a131), (132, a132), (133, a133), (134, a134), (160, a160), (161, a161), (162, a162), (163, a163), (164, a164), (165, a165), (172, a172), (173, a173), (174, a174), (175, a175), (176, a176), (177, a177), (180, a180), (181, a181), (182, a182), (183, a183), (184, a184), (185, a185), (186, a186), (203, a203), (204, a204), (205, a205), (206, a206), (207, a207), (209, a209)] := rfl
  generalize table fnsL = t at hf ⊢
  rw [e]
  refine List.forall_mem_cons.2 ⟨.inr hf, ?_⟩
  refine List.forall_mem_cons.2 ⟨.inl row8, ?_⟩
  refine List.forall_mem_cons.2 ⟨.inl row16, ?_⟩
  refine List.forall_mem_cons.2 ⟨.inl row19, ?_⟩
  refine List.forall_mem_cons.2 ⟨.inl row23, ?_⟩
  refine List.forall_mem_cons.2 ⟨.inl row33, ?_⟩
  refine List.forall_mem_cons.2 ⟨.inl row35, ?_⟩
  refine List.forall_mem_cons.2 ⟨.inl row37, ?_⟩
  refine List.forall_mem_cons.2 ⟨.inl row38, ?_⟩
  refine List.forall_mem_cons.2 ⟨.inl row39, ?_⟩
  refine List.forall_mem_cons.2 ⟨.inl row40, ?_⟩
  refine List.forall_mem_cons.2 ⟨.inl row79, ?_⟩
  refine List.forall_mem_cons.2 ⟨.inl row80, ?_⟩
  refine List.forall_mem_cons.2 ⟨.inl row84, ?_⟩
  refine List.forall_mem_cons.2 ⟨.inl row86, ?_⟩
  refine List.forall_mem_cons.2 ⟨.inl row87, ?_⟩
  refine List.forall_mem_cons.2 ⟨.inl row88, ?_⟩
  refine List.forall_mem_cons.2 ⟨.inl row89, ?_⟩
  refine List.forall_mem_cons.2 ⟨.inl row90, ?_⟩
  refine List.forall_mem_cons.2 ⟨.inl row122, ?_⟩
  refine List.forall_mem_cons.2 ⟨.inl row123, ?_⟩
  refine List.forall_mem_cons.2 ⟨.inl row124, ?_⟩
  refine List.forall_mem_cons.2 ⟨.inl row127, ?_⟩
  refine List.forall_mem_cons.2 ⟨.inl row128, ?_⟩
  refine List.forall_mem_cons.2 ⟨.inl row129, ?_⟩
  refine List.forall_mem_cons.2 ⟨.inl row130, ?_⟩
  refine List.forall_mem_cons.2 ⟨.inl row131, ?_⟩
  refine List.forall_mem_cons.2 ⟨.inl row132, ?_⟩
  refine List.forall_mem_cons.2 ⟨.inl row133, ?_⟩
  refine List.forall_mem_cons.2 ⟨.inl row134, ?_⟩
  refine List.forall_mem_cons.2 ⟨.inl row160, ?_⟩
  refine List.forall_mem_cons.2 ⟨.inl row161, ?_⟩
  refine List.forall_mem_cons.2 ⟨.inl row162, ?_⟩
  refine List.forall_mem_cons.2 ⟨.inl row163, ?_⟩
  refine List.forall_mem_cons.2 ⟨.inl row164, ?_⟩
  refine List.forall_mem_cons.2 ⟨.inl row165, ?_⟩
  refine List.forall_mem_cons.2 ⟨.inl row172, ?_⟩
  refine List.forall_mem_cons.2 ⟨.inl row173, ?_⟩
  refine List.forall_mem_cons.2 ⟨.inl row174, ?_⟩
  refine List.forall_mem_cons.2 ⟨.inl row175, ?_⟩
  refine List.forall_mem_cons.2 ⟨.inl row176, ?_⟩
  refine List.forall_mem_cons.2 ⟨.inl row177, ?_⟩
  refine List.forall_mem_cons.2 ⟨.inl row180, ?_⟩
  refine List.forall_mem_cons.2 ⟨.inl row181, ?_⟩
  refine List.forall_mem_cons.2 ⟨.inl row182, ?_⟩
  refine List.forall_mem_cons.2 ⟨.inl row183, ?_⟩
  refine List.forall_mem_cons.2 ⟨.inl row184, ?_⟩
  refine List.forall_mem_cons.2 ⟨.inl row185, ?_⟩
  refine List.forall_mem_cons.2 ⟨.inl row186, ?_⟩
  refine List.forall_mem_cons.2 ⟨.inl row203, ?_⟩
  refine List.forall_mem_cons.2 ⟨.inl row204, ?_⟩
  refine List.forall_mem_cons.2 ⟨.inl row205, ?_⟩
  refine List.forall_mem_cons.2 ⟨.inl row206, ?_⟩
  refine List.forall_mem_cons.2 ⟨.inl row207, ?_⟩
  refine List.forall_mem_cons.2 ⟨.inl row209, ?_⟩
  intro p hp
  cases hp
theorem has : Has (table fnsL) := ⟨by kernel_rfl, by kernel_rfl, by kernel_rfl, by kernel_rfl, by kernel_rfl, by kernel_rfl, by kernel_rfl, by kernel_rfl, by kernel_rfl, by kernel_rfl, by kernel_rfl, by kernel_rfl, by kernel_rfl, by kernel_rfl, by kernel_rfl, by kernel_rfl, by kernel_rfl, by kernel_rfl, by kernel_rfl, by kernel_rfl, by kernel_rfl, by kernel_rfl, by kernel_rfl, by kernel_rfl, by kernel_rfl, by kernel_rfl, by kernel_rfl, by kernel_rfl, by kernel_rfl, by kernel_rfl, by kernel_rfl, by kernel_rfl, by kernel_rfl, by kernel_rfl, by kernel_rfl, by kernel_rfl, by kernel_rfl, by kernel_rfl, by kernel_rfl, by kernel_rfl, by kernel_rfl, by kernel_rfl, by kernel_rfl, by kernel_rfl, by kernel_rfl, by kernel_rfl, by kernel_rfl, by kernel_rfl, by kernel_rfl, by kernel_rfl, by kernel_rfl, by kernel_rfl, by kernel_rfl, by kernel_rfl⟩
theorem livesOk (S : St) : wpf (table fnsL) (.fn 32 [] []) [] S fun r S' => r = .bool true ∧ Same S S' :=
  wpf_mono (wpf_fake (l := allCells tz) (by kernel_rfl) (fun c hc => by cases hc)) fun r S' h => ⟨h.1, by rw [h.2]; exact Same.refl S⟩
/-- THE LAW, in the evaluator. -/
theorem runs {S : St} {a0 : AV} {l0 : List Int} {a1 : AV} {l1 : List Int} {n2 : Int} (h0 : IsSl .i64 S a0 l0) (hb0 : l0.length ≤ 140737488355328) (h1 : IsSl .i64 S a1 l1) (hb1 : l1.length ≤ 140737488355328) (n2w : -9223372036854775808 ≤ n2 ∧ n2 ≤ 9223372036854775807) : wpf (table fnsL) (.fn 8 [] []) [a0, a1, .int .i64 n2] S fun r S' => r = .bool true ∧ Same S S' :=
  pures_spec has livesOk h0 hb0 h1 hb1
end Go.Proofs.Ytoojnpjgnnpllaa.dealPure
