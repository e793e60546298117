/- 'DuplicateStands': the table of functions that the law reaches; the call of lives stands for itself. -/
import Derived.Test.YtlnjemhkijkaoaaGl20
import Derived.Test.YtlnjemhkijkaoaaLives4Run
namespace Go.Proofs.Ytlnjemhkijkaoaa.duplicateStands
open Go.Ev Go.Ev.Gl
set_option maxRecDepth 100000
def tz : List (Nat × List (IntKind × Int)) := []
theorem tabs_eq : lives4.tabs = tz.map fun x => (x.1, x.2.map fun y => AV.int y.1 y.2) := by kernel_rfl
theorem tz_ok : ∀ x ∈ tz, x.1 < Try.prog.globals.size ∧ x.2 ≠ [] := fun x hx => by cases hx
noncomputable def fnsL : List (Nat × AFn) := (4, fakeFn (allCells tz)) :: [(3, a3), (5, a5), (6, a6), (7, a7), (8, a8), (12, a12), (13, a13), (14, a14), (15, a15), (16, a16), (17, a17), (18, a18), (21, a21), (22, a22), (23, a23), (25, a25), (26, a26), (27, a27), (28, a28), (29, a29), (30, a30), (31, a31), (32, a32), (33, a33), (34, a34), (35, a35), (40, a40), (41, a41), (42, a42), (43, a43), (44, a44), (49, a49)]
theorem knows : Known Try.prog (table fnsL) := by
  refine known_table2 (by kernel_rfl) ?_
  have hf : Faked Try.prog (table fnsL) 4 (fakeFn (allCells tz)) := faked_of_good Try.func4 lives4.body tabs_eq tz_ok lives4.good
  have e : fnsL = (4, fakeFn (allCells tz)) :: [(3, a3), (5, a5), (6, a6), (7, a7), (8, a8), (12, a12), (13, a13), (14, a14), (15, a15), (16, a16), (17, a17), (18, a18), (21, a21), (22, a22), (23, a23), (25, a25), (26, a26), (27, a27), (28, a28), (29, a29), (30, a30), (31, a31), (32, a32), (33, a33), (34, a34), (35, a35), (40, a40), (41, a41), (42, a42), (43, a43), (44, a44), (49, a49)] := rfl
  generalize table fnsL = t at hf ⊢
  rw [e]
  refine List.forall_mem_cons.2 ⟨.inr hf, ?_⟩
  refine List.forall_mem_cons.2 ⟨.inl row3, ?_⟩
  refine List.forall_mem_cons.2 ⟨.inl row5, ?_⟩
  refine List.forall_mem_cons.2 ⟨.inl row6, ?_⟩
  refine List.forall_mem_cons.2 ⟨.inl row7, ?_⟩
  refine List.forall_mem_cons.2 ⟨.inl row8, ?_⟩
  refine List.forall_mem_cons.2 ⟨.inl row12, ?_⟩
  refine List.forall_mem_cons.2 ⟨.inl row13, ?_⟩
  refine List.forall_mem_cons.2 ⟨.inl row14, ?_⟩
  refine List.forall_mem_cons.2 ⟨.inl row15, ?_⟩
  refine List.forall_mem_cons.2 ⟨.inl row16, ?_⟩
  refine List.forall_mem_cons.2 ⟨.inl row17, ?_⟩
  refine List.forall_mem_cons.2 ⟨.inl row18, ?_⟩
  refine List.forall_mem_cons.2 ⟨.inl row21, ?_⟩
  refine List.forall_mem_cons.2 ⟨.inl row22, ?_⟩
  refine List.forall_mem_cons.2 ⟨.inl row23, ?_⟩
  refine List.forall_mem_cons.2 ⟨.inl row25, ?_⟩
  refine List.forall_mem_cons.2 ⟨.inl row26, ?_⟩
  refine List.forall_mem_cons.2 ⟨.inl row27, ?_⟩
  refine List.forall_mem_cons.2 ⟨.inl row28, ?_⟩
  refine List.forall_mem_cons.2 ⟨.inl row29, ?_⟩
  refine List.forall_mem_cons.2 ⟨.inl row30, ?_⟩
  refine List.forall_mem_cons.2 ⟨.inl row31, ?_⟩
  refine List.forall_mem_cons.2 ⟨.inl row32, ?_⟩
  refine List.forall_mem_cons.2 ⟨.inl row33, ?_⟩
  refine List.forall_mem_cons.2 ⟨.inl row34, ?_⟩
  refine List.forall_mem_cons.2 ⟨.inl row35, ?_⟩
  refine List.forall_mem_cons.2 ⟨.inl row40, ?_⟩
  refine List.forall_mem_cons.2 ⟨.inl row41, ?_⟩
  refine List.forall_mem_cons.2 ⟨.inl row42, ?_⟩
  refine List.forall_mem_cons.2 ⟨.inl row43, ?_⟩
  refine List.forall_mem_cons.2 ⟨.inl row44, ?_⟩
  refine List.forall_mem_cons.2 ⟨.inl row49, ?_⟩
  intro p hp
  cases hp
theorem has : Has (table fnsL) := ⟨by kernel_rfl, by kernel_rfl, by kernel_rfl, by kernel_rfl, by kernel_rfl, by kernel_rfl, by kernel_rfl, by kernel_rfl, by kernel_rfl, by kernel_rfl, by kernel_rfl, by kernel_rfl, by kernel_rfl, by kernel_rfl, by kernel_rfl, by kernel_rfl, by kernel_rfl, by kernel_rfl, by kernel_rfl, by kernel_rfl, by kernel_rfl, by kernel_rfl, by kernel_rfl, by kernel_rfl, by kernel_rfl, by kernel_rfl, by kernel_rfl, by kernel_rfl, by kernel_rfl, by kernel_rfl, by kernel_rfl, by kernel_rfl⟩
theorem livesOk (S : St) : wpf (table fnsL) (.fn 4 [] []) [] S fun r S' => r = .bool true ∧ Same S S' :=
  wpf_mono (wpf_fake (l := allCells tz) (by kernel_rfl) (fun c hc => by cases hc)) fun r S' h => ⟨h.1, by rw [h.2]; exact Same.refl S⟩
/-- THE LAW, in the evaluator. -/
theorem runs {S : St} {a0 : AV} {l0 : List (List Int)} {n1 : Int} (h0 : IsSlG 1 SlE S a0 l0) (n1w : -9223372036854775808 ≤ n1 ∧ n1 ≤ 9223372036854775807) : wpf (table fnsL) (.fn 3 [] []) [a0, .int .i64 n1] S fun r S' => r = .bool true ∧ Same S S' :=
  stands_spec has livesOk h0
end Go.Proofs.Ytlnjemhkijkaoaa.duplicateStands
