/- SymmetryNames: the evaluator's run, in the kernel. -/
import Derived.Test.YtjjclnclbjifaaaSymmetryNamesIr0
import Derived.Test.YtjjclnclbjifaaaSymmetryNamesIr1
import Derived.Test.YtjjclnclbjifaaaSymmetryNamesIr2
import Derived.Test.YtjjclnclbjifaaaSymmetryNamesIr3
namespace Go.Proofs.Ytjjclnclbjifaaa.symmetryNames
open Go.Ev
set_option maxRecDepth 100000
noncomputable def fnsL : List (Nat × AFn) := [(8, a8), (9, a9), (12, a12), (13, a13), (14, a14), (15, a15), (25, a25), (26, a26), (28, a28), (31, a31), (33, a33), (34, a34), (35, a35), (37, a37), (38, a38), (39, a39), (46, a46), (47, a47), (48, a48), (51, a51), (52, a52), (56, a56), (57, a57), (58, a58), (59, a59), (60, a60), (61, a61), (64, a64), (69, a69), (70, a70), (71, a71), (72, a72), (73, a73), (74, a74), (75, a75), (76, a76), (77, a77), (78, a78), (79, a79), (81, a81), (82, a82), (83, a83), (84, a84), (85, a85), (86, a86), (87, a87), (88, a88), (89, a89), (90, a90), (91, a91), (92, a92), (93, a93), (97, a97), (98, a98), (99, a99), (100, a100), (101, a101), (102, a102), (103, a103), (104, a104), (105, a105), (106, a106), (107, a107), (108, a108), (109, a109), (110, a110), (111, a111), (112, a112), (113, a113), (114, a114), (115, a115), (116, a116), (117, a117), (118, a118)]
theorem rows : ∀ p ∈ fnsL, Row Try.prog p := by
  unfold fnsL
  refine List.forall_mem_cons.2 ⟨row8, ?_⟩
  refine List.forall_mem_cons.2 ⟨row9, ?_⟩
  refine List.forall_mem_cons.2 ⟨row12, ?_⟩
  refine List.forall_mem_cons.2 ⟨row13, ?_⟩
  refine List.forall_mem_cons.2 ⟨row14, ?_⟩
  refine List.forall_mem_cons.2 ⟨row15, ?_⟩
  refine List.forall_mem_cons.2 ⟨row25, ?_⟩
  refine List.forall_mem_cons.2 ⟨row26, ?_⟩
  refine List.forall_mem_cons.2 ⟨row28, ?_⟩
  refine List.forall_mem_cons.2 ⟨row31, ?_⟩
  refine List.forall_mem_cons.2 ⟨row33, ?_⟩
  refine List.forall_mem_cons.2 ⟨row34, ?_⟩
  refine List.forall_mem_cons.2 ⟨row35, ?_⟩
  refine List.forall_mem_cons.2 ⟨row37, ?_⟩
  refine List.forall_mem_cons.2 ⟨row38, ?_⟩
  refine List.forall_mem_cons.2 ⟨row39, ?_⟩
  refine List.forall_mem_cons.2 ⟨row46, ?_⟩
  refine List.forall_mem_cons.2 ⟨row47, ?_⟩
  refine List.forall_mem_cons.2 ⟨row48, ?_⟩
  refine List.forall_mem_cons.2 ⟨row51, ?_⟩
  refine List.forall_mem_cons.2 ⟨row52, ?_⟩
  refine List.forall_mem_cons.2 ⟨row56, ?_⟩
  refine List.forall_mem_cons.2 ⟨row57, ?_⟩
  refine List.forall_mem_cons.2 ⟨row58, ?_⟩
  refine List.forall_mem_cons.2 ⟨row59, ?_⟩
  refine List.forall_mem_cons.2 ⟨row60, ?_⟩
  refine List.forall_mem_cons.2 ⟨row61, ?_⟩
  refine List.forall_mem_cons.2 ⟨row64, ?_⟩
  refine List.forall_mem_cons.2 ⟨row69, ?_⟩
  refine List.forall_mem_cons.2 ⟨row70, ?_⟩
  refine List.forall_mem_cons.2 ⟨row71, ?_⟩
  refine List.forall_mem_cons.2 ⟨row72, ?_⟩
  refine List.forall_mem_cons.2 ⟨row73, ?_⟩
  refine List.forall_mem_cons.2 ⟨row74, ?_⟩
  refine List.forall_mem_cons.2 ⟨row75, ?_⟩
  refine List.forall_mem_cons.2 ⟨row76, ?_⟩
  refine List.forall_mem_cons.2 ⟨row77, ?_⟩
  refine List.forall_mem_cons.2 ⟨row78, ?_⟩
  refine List.forall_mem_cons.2 ⟨row79, ?_⟩
  refine List.forall_mem_cons.2 ⟨row81, ?_⟩
  refine List.forall_mem_cons.2 ⟨row82, ?_⟩
  refine List.forall_mem_cons.2 ⟨row83, ?_⟩
  refine List.forall_mem_cons.2 ⟨row84, ?_⟩
  refine List.forall_mem_cons.2 ⟨row85, ?_⟩
  refine List.forall_mem_cons.2 ⟨row86, ?_⟩
  refine List.forall_mem_cons.2 ⟨row87, ?_⟩
  refine List.forall_mem_cons.2 ⟨row88, ?_⟩
  refine List.forall_mem_cons.2 ⟨row89, ?_⟩
  refine List.forall_mem_cons.2 ⟨row90, ?_⟩
  refine List.forall_mem_cons.2 ⟨row91, ?_⟩
  refine List.forall_mem_cons.2 ⟨row92, ?_⟩
  refine List.forall_mem_cons.2 ⟨row93, ?_⟩
  refine List.forall_mem_cons.2 ⟨row97, ?_⟩
  refine List.forall_mem_cons.2 ⟨row98, ?_⟩
  refine List.forall_mem_cons.2 ⟨row99, ?_⟩
  refine List.forall_mem_cons.2 ⟨row100, ?_⟩
  refine List.forall_mem_cons.2 ⟨row101, ?_⟩
  refine List.forall_mem_cons.2 ⟨row102, ?_⟩
  refine List.forall_mem_cons.2 ⟨row103, ?_⟩
  refine List.forall_mem_cons.2 ⟨row104, ?_⟩
  refine List.forall_mem_cons.2 ⟨row105, ?_⟩
  refine List.forall_mem_cons.2 ⟨row106, ?_⟩
  refine List.forall_mem_cons.2 ⟨row107, ?_⟩
  refine List.forall_mem_cons.2 ⟨row108, ?_⟩
  refine List.forall_mem_cons.2 ⟨row109, ?_⟩
  refine List.forall_mem_cons.2 ⟨row110, ?_⟩
  refine List.forall_mem_cons.2 ⟨row111, ?_⟩
  refine List.forall_mem_cons.2 ⟨row112, ?_⟩
  refine List.forall_mem_cons.2 ⟨row113, ?_⟩
  refine List.forall_mem_cons.2 ⟨row114, ?_⟩
  refine List.forall_mem_cons.2 ⟨row115, ?_⟩
  refine List.forall_mem_cons.2 ⟨row116, ?_⟩
  refine List.forall_mem_cons.2 ⟨row117, ?_⟩
  refine List.forall_mem_cons.2 ⟨row118, ?_⟩
  intro p hp
  cases hp
theorem knows : Known Try.prog (table fnsL) := known_table (by kernel_rfl) rows
theorem run : okB ((ev (table fnsL) 100000).call (.fn 8 [] []) [] (st0 Try.prog)) = true := by kernel_rfl
theorem walk (w : World) : Calls Try.prog 8 #[] w fun e w' => e = .returned (.bool true) ∧ Kept w w' := by
  obtain ⟨S, h⟩ := okB_true run
  exact calls_bool knows Try.func8 rfl (by kernel_rfl) h w
end Go.Proofs.Ytjjclnclbjifaaa.symmetryNames
