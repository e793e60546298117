/-
  NARROWER THAN 'FOR EVERY INPUT', by the rows' own cells (each row's printed sentence says how): RatSimples: laid · RatSimplest: laid · RatSums: laid · RatOrder: laid · RatField: laid · RatWholes: laid · RatBack: laid.
  DERIVED. THE GIVEN ROWS OF THIS SEAT. 7 by the template 'for every input the law returns true; each argument reads behind the call as it read before'; 0 by the template 'total and deterministic' (their statements: YtmbmidkdinllgaaDoorTotals.lean).
  GIVEN WITH THE SEED: the statements are not yours to turn. If you find one false, say at which input.
  Laid BY PROGRAM, IN A SANDBOX (cutbox-rows.mjs): the forced cells as the released guide's own fill.sh prints them over the translation 2ef5c0a618ef0c56… (all of the seat's roots in one cut). By AI agents, Wed Nov 11 2026. No macro, syntax, notation, axiom, sorry.
-/
import Derived.Test.YtmbmidkdinllgaaDoorChecked
import GoSem.Claim
import GoSem.ClaimJoined
import GoSem.ClaimMapViews
import Derived.JoinedTies
import Derived.KernelRfl
namespace Go.Proofs.YtmbmidkdinllgaaDoor
/- THE CELL 'sum', in the pinned program and in every row, IS THE sha256 OF THE DUMP (.gsa) THAT YtmbmidkdinllgaaDoorProg.lean LOADS. Nothing in Lean hashes anything: it is a label: what it is worth is what the hold of that sum in a sandbox is worth. -/
noncomputable def Tryd.pinned : Pinned := { name := "ytmbmidkdinllgaadoor", sum := "2ef5c0a618ef0c56ee9301e02bd42487a1e846dc64c3a88580babe5a96c937ee", checked := Tryd.checked }
namespace Rows
def none {H : Type} : Left H := { results := [], args := [] }

/- WHAT THE LISTED PACKAGE-LEVEL VARIABLES READ AS WHEN THE CALL BEGINS. Each datum BY PROGRAM (the guide's laid-datum.mjs) off the statement by which the dump's own 'gosem.cut.vars' lays the variable. In a bare row this is a premise. The card (YtmbmidkdinllgaaDoorCards.lean) ties it to the program's text. -/
def laid_math_bits_deBruijn64tab {H : Type} : DataW H := .agg [.lit (.int .u8 0), .lit (.int .u8 1), .lit (.int .u8 56), .lit (.int .u8 2), .lit (.int .u8 57), .lit (.int .u8 49), .lit (.int .u8 28), .lit (.int .u8 3), .lit (.int .u8 61), .lit (.int .u8 58), .lit (.int .u8 42), .lit (.int .u8 50), .lit (.int .u8 38), .lit (.int .u8 29), .lit (.int .u8 17), .lit (.int .u8 4), .lit (.int .u8 62), .lit (.int .u8 47), .lit (.int .u8 59), .lit (.int .u8 36), .lit (.int .u8 45), .lit (.int .u8 43), .lit (.int .u8 51), .lit (.int .u8 22), .lit (.int .u8 53), .lit (.int .u8 39), .lit (.int .u8 33), .lit (.int .u8 30), .lit (.int .u8 24), .lit (.int .u8 18), .lit (.int .u8 12), .lit (.int .u8 5), .lit (.int .u8 63), .lit (.int .u8 55), .lit (.int .u8 48), .lit (.int .u8 27), .lit (.int .u8 60), .lit (.int .u8 41), .lit (.int .u8 37), .lit (.int .u8 16), .lit (.int .u8 46), .lit (.int .u8 35), .lit (.int .u8 44), .lit (.int .u8 21), .lit (.int .u8 52), .lit (.int .u8 32), .lit (.int .u8 23), .lit (.int .u8 11), .lit (.int .u8 54), .lit (.int .u8 26), .lit (.int .u8 40), .lit (.int .u8 15), .lit (.int .u8 34), .lit (.int .u8 20), .lit (.int .u8 31), .lit (.int .u8 10), .lit (.int .u8 25), .lit (.int .u8 14), .lit (.int .u8 19), .lit (.int .u8 9), .lit (.int .u8 13), .lit (.int .u8 8), .lit (.int .u8 7), .lit (.int .u8 6)]
def laid_parlour_rat_values {H : Type} : DataW H := .agg [.lit (.int .i64 (-1)), .lit (.int .i64 0), .lit (.int .i64 1)]
def laid_parlour_nat_digits {H : Type} : DataW H := .agg [.lit (.int .u8 48), .lit (.int .u8 49), .lit (.int .u8 50), .lit (.int .u8 51), .lit (.int .u8 52), .lit (.int .u8 53), .lit (.int .u8 54), .lit (.int .u8 55), .lit (.int .u8 56), .lit (.int .u8 57)]

/-- 'parlourlaw02.RatSimples': WHATEVER THE INPUT: true; the input reads as it did. -/
def ratSimplesSpec : ChangeSpec := { name := "ratSimples", fn := fun _ => fun
  | [d1, d2] => { results := [.lit (.bool true)], args := [d1, d2] }
  | _ => none }
def ratSimplesRow : OpenClaim := { program := "ytmbmidkdinllgaadoor", sum := "2ef5c0a618ef0c56ee9301e02bd42487a1e846dc64c3a88580babe5a96c937ee", func := "parlour/parlourlaw02.RatSimples", spec := "ratSimples", inPlace := ["math/bits.Add64"], unfollowed := true, recurses := true, named := ["math/bits.deBruijn64tab", "parlour/rat.values"], apart := false, laid := [("math/bits.deBruijn64tab", laid_math_bits_deBruijn64tab), ("parlour/rat.values", laid_parlour_rat_values)] }
def RatSimplesSaid : Prop := ratSimplesRow.holds Tryd.pinned (OpenSpec.ofChange ratSimplesSpec)

/-- ITS FALSE NEIGHBOUR: 'it returns false'. Refute it at one input. -/
def ratSimplesWrong : ChangeSpec := { name := "ratSimples", fn := fun _ => fun
  | [d1, d2] => { results := [.lit (.bool false)], args := [d1, d2] }
  | _ => none }
def RatSimplesWrongFalsely : Prop := ratSimplesRow.holds Tryd.pinned (OpenSpec.ofChange ratSimplesWrong)

/-- 'parlourlaw02.RatSimplest': WHATEVER THE INPUT: true; the input reads as it did. -/
def ratSimplestSpec : ChangeSpec := { name := "ratSimplest", fn := fun _ => fun
  | [d] => { results := [.lit (.bool true)], args := [d] }
  | _ => none }
def ratSimplestRow : OpenClaim := { program := "ytmbmidkdinllgaadoor", sum := "2ef5c0a618ef0c56ee9301e02bd42487a1e846dc64c3a88580babe5a96c937ee", func := "parlour/parlourlaw02.RatSimplest", spec := "ratSimplest", inPlace := ["math/bits.Add64"], unfollowed := true, recurses := true, named := ["parlour/rat.values", "math/bits.deBruijn64tab"], apart := false, laid := [("math/bits.deBruijn64tab", laid_math_bits_deBruijn64tab), ("parlour/rat.values", laid_parlour_rat_values)] }
def RatSimplestSaid : Prop := ratSimplestRow.holds Tryd.pinned (OpenSpec.ofChange ratSimplestSpec)

/-- ITS FALSE NEIGHBOUR: 'it returns false'. Refute it at one input. -/
def ratSimplestWrong : ChangeSpec := { name := "ratSimplest", fn := fun _ => fun
  | [d] => { results := [.lit (.bool false)], args := [d] }
  | _ => none }
def RatSimplestWrongFalsely : Prop := ratSimplestRow.holds Tryd.pinned (OpenSpec.ofChange ratSimplestWrong)

/-- 'parlourlaw02.RatSums': WHATEVER THE INPUT: true; the input reads as it did. -/
def ratSumsSpec : ChangeSpec := { name := "ratSums", fn := fun _ => fun
  | [d1, d2] => { results := [.lit (.bool true)], args := [d1, d2] }
  | _ => none }
def ratSumsRow : OpenClaim := { program := "ytmbmidkdinllgaadoor", sum := "2ef5c0a618ef0c56ee9301e02bd42487a1e846dc64c3a88580babe5a96c937ee", func := "parlour/parlourlaw02.RatSums", spec := "ratSums", inPlace := ["math/bits.Add64"], unfollowed := true, recurses := true, named := ["math/bits.deBruijn64tab", "parlour/rat.values"], apart := false, laid := [("math/bits.deBruijn64tab", laid_math_bits_deBruijn64tab), ("parlour/rat.values", laid_parlour_rat_values)] }
def RatSumsSaid : Prop := ratSumsRow.holds Tryd.pinned (OpenSpec.ofChange ratSumsSpec)

/-- ITS FALSE NEIGHBOUR: 'it returns false'. Refute it at one input. -/
def ratSumsWrong : ChangeSpec := { name := "ratSums", fn := fun _ => fun
  | [d1, d2] => { results := [.lit (.bool false)], args := [d1, d2] }
  | _ => none }
def RatSumsWrongFalsely : Prop := ratSumsRow.holds Tryd.pinned (OpenSpec.ofChange ratSumsWrong)

/-- 'parlourlaw02.RatOrder': WHATEVER THE INPUT: true; the input reads as it did. -/
def ratOrderSpec : ChangeSpec := { name := "ratOrder", fn := fun _ => fun
  | [d1, d2, d3, d4] => { results := [.lit (.bool true)], args := [d1, d2, d3, d4] }
  | _ => none }
def ratOrderRow : OpenClaim := { program := "ytmbmidkdinllgaadoor", sum := "2ef5c0a618ef0c56ee9301e02bd42487a1e846dc64c3a88580babe5a96c937ee", func := "parlour/parlourlaw02.RatOrder", spec := "ratOrder", inPlace := ["math/bits.Add64"], unfollowed := true, recurses := true, named := ["math/bits.deBruijn64tab", "parlour/rat.values"], apart := false, laid := [("math/bits.deBruijn64tab", laid_math_bits_deBruijn64tab), ("parlour/rat.values", laid_parlour_rat_values)] }
def RatOrderSaid : Prop := ratOrderRow.holds Tryd.pinned (OpenSpec.ofChange ratOrderSpec)

/-- ITS FALSE NEIGHBOUR: 'it returns false'. Refute it at one input. -/
def ratOrderWrong : ChangeSpec := { name := "ratOrder", fn := fun _ => fun
  | [d1, d2, d3, d4] => { results := [.lit (.bool false)], args := [d1, d2, d3, d4] }
  | _ => none }
def RatOrderWrongFalsely : Prop := ratOrderRow.holds Tryd.pinned (OpenSpec.ofChange ratOrderWrong)

/-- 'parlourlaw02.RatField': WHATEVER THE INPUT: true; the input reads as it did. -/
def ratFieldSpec : ChangeSpec := { name := "ratField", fn := fun _ => fun
  | [d1, d2, d3, d4] => { results := [.lit (.bool true)], args := [d1, d2, d3, d4] }
  | _ => none }
def ratFieldRow : OpenClaim := { program := "ytmbmidkdinllgaadoor", sum := "2ef5c0a618ef0c56ee9301e02bd42487a1e846dc64c3a88580babe5a96c937ee", func := "parlour/parlourlaw02.RatField", spec := "ratField", inPlace := ["math/bits.Add64"], unfollowed := true, recurses := true, named := ["math/bits.deBruijn64tab", "parlour/rat.values"], apart := false, laid := [("math/bits.deBruijn64tab", laid_math_bits_deBruijn64tab), ("parlour/rat.values", laid_parlour_rat_values)] }
def RatFieldSaid : Prop := ratFieldRow.holds Tryd.pinned (OpenSpec.ofChange ratFieldSpec)

/-- ITS FALSE NEIGHBOUR: 'it returns false'. Refute it at one input. -/
def ratFieldWrong : ChangeSpec := { name := "ratField", fn := fun _ => fun
  | [d1, d2, d3, d4] => { results := [.lit (.bool false)], args := [d1, d2, d3, d4] }
  | _ => none }
def RatFieldWrongFalsely : Prop := ratFieldRow.holds Tryd.pinned (OpenSpec.ofChange ratFieldWrong)

/-- 'parlourlaw02.RatWholes': WHATEVER THE INPUT: true; the input reads as it did. -/
def ratWholesSpec : ChangeSpec := { name := "ratWholes", fn := fun _ => fun
  | [d1, d2, d3] => { results := [.lit (.bool true)], args := [d1, d2, d3] }
  | _ => none }
def ratWholesRow : OpenClaim := { program := "ytmbmidkdinllgaadoor", sum := "2ef5c0a618ef0c56ee9301e02bd42487a1e846dc64c3a88580babe5a96c937ee", func := "parlour/parlourlaw02.RatWholes", spec := "ratWholes", inPlace := ["math/bits.Add64"], unfollowed := true, recurses := true, named := ["math/bits.deBruijn64tab", "parlour/rat.values"], apart := false, laid := [("math/bits.deBruijn64tab", laid_math_bits_deBruijn64tab), ("parlour/rat.values", laid_parlour_rat_values)] }
def RatWholesSaid : Prop := ratWholesRow.holds Tryd.pinned (OpenSpec.ofChange ratWholesSpec)

/-- ITS FALSE NEIGHBOUR: 'it returns false'. Refute it at one input. -/
def ratWholesWrong : ChangeSpec := { name := "ratWholes", fn := fun _ => fun
  | [d1, d2, d3] => { results := [.lit (.bool false)], args := [d1, d2, d3] }
  | _ => none }
def RatWholesWrongFalsely : Prop := ratWholesRow.holds Tryd.pinned (OpenSpec.ofChange ratWholesWrong)

/-- 'parlourlaw02.RatBack': WHATEVER THE INPUT: true; the input reads as it did. -/
def ratBackSpec : ChangeSpec := { name := "ratBack", fn := fun _ => fun
  | [d1, d2, d3, d4] => { results := [.lit (.bool true)], args := [d1, d2, d3, d4] }
  | _ => none }
def ratBackRow : OpenClaim := { program := "ytmbmidkdinllgaadoor", sum := "2ef5c0a618ef0c56ee9301e02bd42487a1e846dc64c3a88580babe5a96c937ee", func := "parlour/parlourlaw02.RatBack", spec := "ratBack", inPlace := ["math/bits.Add64", "internal/bytealg.IndexByteString", "internal/bytealg.IndexString"], unfollowed := true, recurses := true, named := ["math/bits.deBruijn64tab", "parlour/rat.values", "parlour/nat.digits", "internal/bytealg.MaxLen"], apart := false, laid := [("math/bits.deBruijn64tab", laid_math_bits_deBruijn64tab), ("parlour/nat.digits", laid_parlour_nat_digits), ("parlour/rat.values", laid_parlour_rat_values)] }
def RatBackSaid : Prop := ratBackRow.holds Tryd.pinned (OpenSpec.ofChange ratBackSpec)

/-- ITS FALSE NEIGHBOUR: 'it returns false'. Refute it at one input. -/
def ratBackWrong : ChangeSpec := { name := "ratBack", fn := fun _ => fun
  | [d1, d2, d3, d4] => { results := [.lit (.bool false)], args := [d1, d2, d3, d4] }
  | _ => none }
def RatBackWrongFalsely : Prop := ratBackRow.holds Tryd.pinned (OpenSpec.ofChange ratBackWrong)

/- THE SECOND FORM. 'bulk': how many values and letters a reading holds, each counted each time it is reached (what is shared counts as often as it is met; a slice's spare places count too). A statement '..UptoSaid' is the law's where the arguments, and the package variables that the reading takes, are together of bulk at most 1048576: NARROWER than '..Said'. Prove '..Said' where nothing that the law and all that it calls make is longer than what came in: it says more and counts as full. Else prove '..UptoSaid'. A law counts once. -/
mutual
def uptoBulk {H : Type} : DataW H → Nat
  | .lit (.string bytes) => bytes.length + 1
  | .lit _ => 1
  | .nil => 1
  | .ptr d => uptoBulk d + 1
  | .slice elems spare => uptoBulkAll elems + uptoBulkAll spare + 1
  | .agg parts => uptoBulkAll parts + 1
  | .iface _ d => uptoBulk d + 1
  | .map entries => uptoBulkEntries entries + 1
  | .held _ => 1
def uptoBulkAll {H : Type} : List (DataW H) → Nat
  | [] => 0
  | d :: r => uptoBulk d + uptoBulkAll r
def uptoBulkEntries {H : Type} : List (Lit × DataW H) → Nat
  | [] => 0
  | x :: r => uptoBulkEntry x + uptoBulkEntries r
def uptoBulkEntry {H : Type} : Lit × DataW H → Nat
  | (.string bytes, d) => bytes.length + uptoBulk d + 1
  | (_, d) => uptoBulk d + 1
 end
def uptoSmall : (H : Type) → List (DataW H) → Bool := fun _ ds => decide (uptoBulkAll ds ≤ 1048576)
def OpenSpec.upto (s : _root_.Go.ChangeSpec) : _root_.Go.OpenSpec := { _root_.Go.OpenSpec.ofChange s with cond := some uptoSmall }

/-- 'parlourlaw02.RatSimples', WHERE WHAT IT READS IS OF BULK AT MOST 1048576: true; the input reads as it did. -/
def ratSimplesUptoRow : OpenClaim := { program := "ytmbmidkdinllgaadoor", sum := "2ef5c0a618ef0c56ee9301e02bd42487a1e846dc64c3a88580babe5a96c937ee", func := "parlour/parlourlaw02.RatSimples", spec := "ratSimples", inPlace := ["math/bits.Add64"], unfollowed := true, recurses := true, named := ["math/bits.deBruijn64tab", "parlour/rat.values"], apart := false, laid := [("math/bits.deBruijn64tab", laid_math_bits_deBruijn64tab), ("parlour/rat.values", laid_parlour_rat_values)], narrowed := true }
def RatSimplesUptoSaid : Prop := ratSimplesUptoRow.holds Tryd.pinned (OpenSpec.upto ratSimplesSpec)

/-- 'parlourlaw02.RatSimplest', WHERE WHAT IT READS IS OF BULK AT MOST 1048576: true; the input reads as it did. -/
def ratSimplestUptoRow : OpenClaim := { program := "ytmbmidkdinllgaadoor", sum := "2ef5c0a618ef0c56ee9301e02bd42487a1e846dc64c3a88580babe5a96c937ee", func := "parlour/parlourlaw02.RatSimplest", spec := "ratSimplest", inPlace := ["math/bits.Add64"], unfollowed := true, recurses := true, named := ["parlour/rat.values", "math/bits.deBruijn64tab"], apart := false, laid := [("math/bits.deBruijn64tab", laid_math_bits_deBruijn64tab), ("parlour/rat.values", laid_parlour_rat_values)], narrowed := true }
def RatSimplestUptoSaid : Prop := ratSimplestUptoRow.holds Tryd.pinned (OpenSpec.upto ratSimplestSpec)

/-- 'parlourlaw02.RatSums', WHERE WHAT IT READS IS OF BULK AT MOST 1048576: true; the input reads as it did. -/
def ratSumsUptoRow : OpenClaim := { program := "ytmbmidkdinllgaadoor", sum := "2ef5c0a618ef0c56ee9301e02bd42487a1e846dc64c3a88580babe5a96c937ee", func := "parlour/parlourlaw02.RatSums", spec := "ratSums", inPlace := ["math/bits.Add64"], unfollowed := true, recurses := true, named := ["math/bits.deBruijn64tab", "parlour/rat.values"], apart := false, laid := [("math/bits.deBruijn64tab", laid_math_bits_deBruijn64tab), ("parlour/rat.values", laid_parlour_rat_values)], narrowed := true }
def RatSumsUptoSaid : Prop := ratSumsUptoRow.holds Tryd.pinned (OpenSpec.upto ratSumsSpec)

/-- 'parlourlaw02.RatOrder', WHERE WHAT IT READS IS OF BULK AT MOST 1048576: true; the input reads as it did. -/
def ratOrderUptoRow : OpenClaim := { program := "ytmbmidkdinllgaadoor", sum := "2ef5c0a618ef0c56ee9301e02bd42487a1e846dc64c3a88580babe5a96c937ee", func := "parlour/parlourlaw02.RatOrder", spec := "ratOrder", inPlace := ["math/bits.Add64"], unfollowed := true, recurses := true, named := ["math/bits.deBruijn64tab", "parlour/rat.values"], apart := false, laid := [("math/bits.deBruijn64tab", laid_math_bits_deBruijn64tab), ("parlour/rat.values", laid_parlour_rat_values)], narrowed := true }
def RatOrderUptoSaid : Prop := ratOrderUptoRow.holds Tryd.pinned (OpenSpec.upto ratOrderSpec)

/-- 'parlourlaw02.RatField', WHERE WHAT IT READS IS OF BULK AT MOST 1048576: true; the input reads as it did. -/
def ratFieldUptoRow : OpenClaim := { program := "ytmbmidkdinllgaadoor", sum := "2ef5c0a618ef0c56ee9301e02bd42487a1e846dc64c3a88580babe5a96c937ee", func := "parlour/parlourlaw02.RatField", spec := "ratField", inPlace := ["math/bits.Add64"], unfollowed := true, recurses := true, named := ["math/bits.deBruijn64tab", "parlour/rat.values"], apart := false, laid := [("math/bits.deBruijn64tab", laid_math_bits_deBruijn64tab), ("parlour/rat.values", laid_parlour_rat_values)], narrowed := true }
def RatFieldUptoSaid : Prop := ratFieldUptoRow.holds Tryd.pinned (OpenSpec.upto ratFieldSpec)

/-- 'parlourlaw02.RatWholes', WHERE WHAT IT READS IS OF BULK AT MOST 1048576: true; the input reads as it did. -/
def ratWholesUptoRow : OpenClaim := { program := "ytmbmidkdinllgaadoor", sum := "2ef5c0a618ef0c56ee9301e02bd42487a1e846dc64c3a88580babe5a96c937ee", func := "parlour/parlourlaw02.RatWholes", spec := "ratWholes", inPlace := ["math/bits.Add64"], unfollowed := true, recurses := true, named := ["math/bits.deBruijn64tab", "parlour/rat.values"], apart := false, laid := [("math/bits.deBruijn64tab", laid_math_bits_deBruijn64tab), ("parlour/rat.values", laid_parlour_rat_values)], narrowed := true }
def RatWholesUptoSaid : Prop := ratWholesUptoRow.holds Tryd.pinned (OpenSpec.upto ratWholesSpec)

/-- 'parlourlaw02.RatBack', WHERE WHAT IT READS IS OF BULK AT MOST 1048576: true; the input reads as it did. -/
def ratBackUptoRow : OpenClaim := { program := "ytmbmidkdinllgaadoor", sum := "2ef5c0a618ef0c56ee9301e02bd42487a1e846dc64c3a88580babe5a96c937ee", func := "parlour/parlourlaw02.RatBack", spec := "ratBack", inPlace := ["math/bits.Add64", "internal/bytealg.IndexByteString", "internal/bytealg.IndexString"], unfollowed := true, recurses := true, named := ["math/bits.deBruijn64tab", "parlour/rat.values", "parlour/nat.digits", "internal/bytealg.MaxLen"], apart := false, laid := [("math/bits.deBruijn64tab", laid_math_bits_deBruijn64tab), ("parlour/nat.digits", laid_parlour_nat_digits), ("parlour/rat.values", laid_parlour_rat_values)], narrowed := true }
def RatBackUptoSaid : Prop := ratBackUptoRow.holds Tryd.pinned (OpenSpec.upto ratBackSpec)

end Rows
end Go.Proofs.YtmbmidkdinllgaaDoor
