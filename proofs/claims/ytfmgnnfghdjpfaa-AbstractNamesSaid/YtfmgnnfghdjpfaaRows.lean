/-
  No cell of these rows narrows 'for every input' (looked for: loops, veiled, ifaces, maps, wideKeys, modest, calm, conditions, laid).
  DERIVED. THE GIVEN ROWS OF THIS SEAT. 5 by the template 'for every input the law returns true; each argument reads behind the call as it read before'; 0 by the template 'total and deterministic' (their statements: YtfmgnnfghdjpfaaTotals.lean).
  GIVEN WITH THE SEED: the statements are not yours to turn. If you find one false, say at which input.
  Laid BY PROGRAM, IN A SANDBOX (cutbox-rows.mjs): the forced cells as the released guide's own fill.sh prints them over the translation a39089045da3ae88… (all of the seat's roots in one cut). By AI agents, Wed Nov 11 2026. No macro, syntax, notation, axiom, sorry.
-/
import Derived.Test.YtfmgnnfghdjpfaaChecked
import GoSem.Claim
import GoSem.ClaimJoined
import GoSem.ClaimMapViews
import Derived.JoinedTies
import Derived.KernelRfl
namespace Go.Proofs.Ytfmgnnfghdjpfaa
/- THE CELL 'sum', in the pinned program and in every row, IS THE sha256 OF THE DUMP (.gsa) THAT YtfmgnnfghdjpfaaProg.lean LOADS. Nothing in Lean hashes anything: it is a label: what it is worth is what the hold of that sum in a sandbox is worth. -/
noncomputable def Try.pinned : Pinned := { name := "ytfmgnnfghdjpfaa", sum := "a39089045da3ae880ddf075325a9a1562469e117e523fabedf830384a06f31dc", checked := Try.checked }
namespace Rows
def none {H : Type} : Left H := { results := [], args := [] }

/-- 'parlourlaw15.AbstractJoins': WHATEVER THE INPUT: true; the input reads as it did. -/
def abstractJoinsSpec : ChangeSpec := { name := "abstractJoins", fn := fun _ => fun
  | [d1, d2] => { results := [.lit (.bool true)], args := [d1, d2] }
  | _ => none }
def abstractJoinsRow : OpenClaim := { program := "ytfmgnnfghdjpfaa", sum := "a39089045da3ae880ddf075325a9a1562469e117e523fabedf830384a06f31dc", func := "parlour/parlourlaw15.AbstractJoins", spec := "abstractJoins", unfollowed := true, recurses := true, plainKeys := false, apart := false }
def AbstractJoinsSaid : Prop := abstractJoinsRow.holds Try.pinned (OpenSpec.ofChange abstractJoinsSpec)

/-- ITS FALSE NEIGHBOUR: 'it returns false'. Refute it at one input. -/
def abstractJoinsWrong : ChangeSpec := { name := "abstractJoins", fn := fun _ => fun
  | [d1, d2] => { results := [.lit (.bool false)], args := [d1, d2] }
  | _ => none }
def AbstractJoinsWrongFalsely : Prop := abstractJoinsRow.holds Try.pinned (OpenSpec.ofChange abstractJoinsWrong)

/-- 'parlourlaw15.AbstractPays': WHATEVER THE INPUT: true; the input reads as it did. -/
def abstractPaysSpec : ChangeSpec := { name := "abstractPays", fn := fun _ => fun
  | [d1, d2, d3, d4, d5, d6] => { results := [.lit (.bool true)], args := [d1, d2, d3, d4, d5, d6] }
  | _ => none }
def abstractPaysRow : OpenClaim := { program := "ytfmgnnfghdjpfaa", sum := "a39089045da3ae880ddf075325a9a1562469e117e523fabedf830384a06f31dc", func := "parlour/parlourlaw15.AbstractPays", spec := "abstractPays", unfollowed := true, recurses := true, plainKeys := false, apart := false }
def AbstractPaysSaid : Prop := abstractPaysRow.holds Try.pinned (OpenSpec.ofChange abstractPaysSpec)

/-- ITS FALSE NEIGHBOUR: 'it returns false'. Refute it at one input. -/
def abstractPaysWrong : ChangeSpec := { name := "abstractPays", fn := fun _ => fun
  | [d1, d2, d3, d4, d5, d6] => { results := [.lit (.bool false)], args := [d1, d2, d3, d4, d5, d6] }
  | _ => none }
def AbstractPaysWrongFalsely : Prop := abstractPaysRow.holds Try.pinned (OpenSpec.ofChange abstractPaysWrong)

/-- 'parlourlaw15.AbstractNames': WHATEVER THE INPUT: true; the input reads as it did. -/
def abstractNamesSpec : ChangeSpec := { name := "abstractNames", fn := fun _ => fun
  | [] => { results := [.lit (.bool true)], args := [] }
  | _ => none }
def abstractNamesRow : OpenClaim := { program := "ytfmgnnfghdjpfaa", sum := "a39089045da3ae880ddf075325a9a1562469e117e523fabedf830384a06f31dc", func := "parlour/parlourlaw15.AbstractNames", spec := "abstractNames", unfollowed := true, recurses := true, plainKeys := false, apart := false }
def AbstractNamesSaid : Prop := abstractNamesRow.holds Try.pinned (OpenSpec.ofChange abstractNamesSpec)

/-- ITS FALSE NEIGHBOUR: 'it returns false'. Refute it at one input. -/
def abstractNamesWrong : ChangeSpec := { name := "abstractNames", fn := fun _ => fun
  | [] => { results := [.lit (.bool false)], args := [] }
  | _ => none }
def AbstractNamesWrongFalsely : Prop := abstractNamesRow.holds Try.pinned (OpenSpec.ofChange abstractNamesWrong)

/-- 'parlourlaw15.AbstractLifts': WHATEVER THE INPUT: true; the input reads as it did. -/
def abstractLiftsSpec : ChangeSpec := { name := "abstractLifts", fn := fun _ => fun
  | [d1, d2, d3] => { results := [.lit (.bool true)], args := [d1, d2, d3] }
  | _ => none }
def abstractLiftsRow : OpenClaim := { program := "ytfmgnnfghdjpfaa", sum := "a39089045da3ae880ddf075325a9a1562469e117e523fabedf830384a06f31dc", func := "parlour/parlourlaw15.AbstractLifts", spec := "abstractLifts", unfollowed := true, recurses := true, plainKeys := false, apart := false }
def AbstractLiftsSaid : Prop := abstractLiftsRow.holds Try.pinned (OpenSpec.ofChange abstractLiftsSpec)

/-- ITS FALSE NEIGHBOUR: 'it returns false'. Refute it at one input. -/
def abstractLiftsWrong : ChangeSpec := { name := "abstractLifts", fn := fun _ => fun
  | [d1, d2, d3] => { results := [.lit (.bool false)], args := [d1, d2, d3] }
  | _ => none }
def AbstractLiftsWrongFalsely : Prop := abstractLiftsRow.holds Try.pinned (OpenSpec.ofChange abstractLiftsWrong)

/-- 'parlourlaw15.AbstractBack': WHATEVER THE INPUT: true; the input reads as it did. -/
def abstractBackSpec : ChangeSpec := { name := "abstractBack", fn := fun _ => fun
  | [d1, d2, d3, d4, d5, d6] => { results := [.lit (.bool true)], args := [d1, d2, d3, d4, d5, d6] }
  | _ => none }
def abstractBackRow : OpenClaim := { program := "ytfmgnnfghdjpfaa", sum := "a39089045da3ae880ddf075325a9a1562469e117e523fabedf830384a06f31dc", func := "parlour/parlourlaw15.AbstractBack", spec := "abstractBack", unfollowed := true, recurses := true, plainKeys := false, apart := false }
def AbstractBackSaid : Prop := abstractBackRow.holds Try.pinned (OpenSpec.ofChange abstractBackSpec)

/-- ITS FALSE NEIGHBOUR: 'it returns false'. Refute it at one input. -/
def abstractBackWrong : ChangeSpec := { name := "abstractBack", fn := fun _ => fun
  | [d1, d2, d3, d4, d5, d6] => { results := [.lit (.bool false)], args := [d1, d2, d3, d4, d5, d6] }
  | _ => none }
def AbstractBackWrongFalsely : Prop := abstractBackRow.holds Try.pinned (OpenSpec.ofChange abstractBackWrong)

/- THE SECOND FORM. 'bulk': how many values and letters a reading holds, each counted each time it is reached (what is shared counts as often as it is met; a slice's spare places count too). A statement '..UptoSaid' is the law's where the arguments, and the package variables that the reading takes, are together of bulk at most 1048576: NARROWER than '..Said'. Prove '..Said' where nothing that the law and all that it calls make is longer than what came in: it says more and counts as full. Else prove '..UptoSaid'. A law counts once. -/
mutual
def uptoBulk {H : Type} : DataW H → Nat
  | .lit (.string bytes) => bytes.length + 1
  | .lit _ => 1
  | .nil => 1
  | .ptr d => uptoBulk d + 1
  | .slice elems spare => uptoBulkAll elems + uptoBulkAll spare + 1
  | .agg parts => uptoBulkAll parts + 1
  | .iface _ d => uptoBulk d + 1
  | .map entries => uptoBulkEntries entries + 1
  | .held _ => 1
def uptoBulkAll {H : Type} : List (DataW H) → Nat
  | [] => 0
  | d :: r => uptoBulk d + uptoBulkAll r
def uptoBulkEntries {H : Type} : List (Lit × DataW H) → Nat
  | [] => 0
  | x :: r => uptoBulkEntry x + uptoBulkEntries r
def uptoBulkEntry {H : Type} : Lit × DataW H → Nat
  | (.string bytes, d) => bytes.length + uptoBulk d + 1
  | (_, d) => uptoBulk d + 1
 end
def uptoSmall : (H : Type) → List (DataW H) → Bool := fun _ ds => decide (uptoBulkAll ds ≤ 1048576)
def OpenSpec.upto (s : _root_.Go.ChangeSpec) : _root_.Go.OpenSpec := { _root_.Go.OpenSpec.ofChange s with cond := some uptoSmall }

/-- 'parlourlaw15.AbstractJoins', WHERE WHAT IT READS IS OF BULK AT MOST 1048576: true; the input reads as it did. -/
def abstractJoinsUptoRow : OpenClaim := { program := "ytfmgnnfghdjpfaa", sum := "a39089045da3ae880ddf075325a9a1562469e117e523fabedf830384a06f31dc", func := "parlour/parlourlaw15.AbstractJoins", spec := "abstractJoins", unfollowed := true, recurses := true, plainKeys := false, apart := false, narrowed := true }
def AbstractJoinsUptoSaid : Prop := abstractJoinsUptoRow.holds Try.pinned (OpenSpec.upto abstractJoinsSpec)

/-- 'parlourlaw15.AbstractPays', WHERE WHAT IT READS IS OF BULK AT MOST 1048576: true; the input reads as it did. -/
def abstractPaysUptoRow : OpenClaim := { program := "ytfmgnnfghdjpfaa", sum := "a39089045da3ae880ddf075325a9a1562469e117e523fabedf830384a06f31dc", func := "parlour/parlourlaw15.AbstractPays", spec := "abstractPays", unfollowed := true, recurses := true, plainKeys := false, apart := false, narrowed := true }
def AbstractPaysUptoSaid : Prop := abstractPaysUptoRow.holds Try.pinned (OpenSpec.upto abstractPaysSpec)

/-- 'parlourlaw15.AbstractNames', WHERE WHAT IT READS IS OF BULK AT MOST 1048576: true; the input reads as it did. -/
def abstractNamesUptoRow : OpenClaim := { program := "ytfmgnnfghdjpfaa", sum := "a39089045da3ae880ddf075325a9a1562469e117e523fabedf830384a06f31dc", func := "parlour/parlourlaw15.AbstractNames", spec := "abstractNames", unfollowed := true, recurses := true, plainKeys := false, apart := false, narrowed := true }
def AbstractNamesUptoSaid : Prop := abstractNamesUptoRow.holds Try.pinned (OpenSpec.upto abstractNamesSpec)

/-- 'parlourlaw15.AbstractLifts', WHERE WHAT IT READS IS OF BULK AT MOST 1048576: true; the input reads as it did. -/
def abstractLiftsUptoRow : OpenClaim := { program := "ytfmgnnfghdjpfaa", sum := "a39089045da3ae880ddf075325a9a1562469e117e523fabedf830384a06f31dc", func := "parlour/parlourlaw15.AbstractLifts", spec := "abstractLifts", unfollowed := true, recurses := true, plainKeys := false, apart := false, narrowed := true }
def AbstractLiftsUptoSaid : Prop := abstractLiftsUptoRow.holds Try.pinned (OpenSpec.upto abstractLiftsSpec)

/-- 'parlourlaw15.AbstractBack', WHERE WHAT IT READS IS OF BULK AT MOST 1048576: true; the input reads as it did. -/
def abstractBackUptoRow : OpenClaim := { program := "ytfmgnnfghdjpfaa", sum := "a39089045da3ae880ddf075325a9a1562469e117e523fabedf830384a06f31dc", func := "parlour/parlourlaw15.AbstractBack", spec := "abstractBack", unfollowed := true, recurses := true, plainKeys := false, apart := false, narrowed := true }
def AbstractBackUptoSaid : Prop := abstractBackUptoRow.holds Try.pinned (OpenSpec.upto abstractBackSpec)

end Rows
end Go.Proofs.Ytfmgnnfghdjpfaa
