/-
  No cell of these rows narrows 'for every input' (looked for: loops, veiled, ifaces, maps, wideKeys, modest, calm, conditions, laid).
  DERIVED. THE GIVEN ROWS OF THIS SEAT. 11 by the template 'for every input the law returns true; each argument reads behind the call as it read before'; 0 by the template 'total and deterministic' (their statements: YtoojnpjgnnpllaaTotals.lean).
  GIVEN WITH THE SEED: the statements are not yours to turn. If you find one false, say at which input.
  Laid BY PROGRAM, IN A SANDBOX (cutbox-rows.mjs): the forced cells as the released guide's own fill.sh prints them over the translation 164847064560ef3c… (all of the seat's roots in one cut). By AI agents, Wed Nov 11 2026. No macro, syntax, notation, axiom, sorry.
-/
import Derived.Test.YtoojnpjgnnpllaaChecked
import GoSem.Claim
import GoSem.ClaimJoined
import GoSem.ClaimMapViews
import Derived.JoinedTies
import Derived.KernelRfl
namespace Go.Proofs.Ytoojnpjgnnpllaa
/- THE CELL 'sum', in the pinned program and in every row, IS THE sha256 OF THE DUMP (.gsa) THAT YtoojnpjgnnpllaaProg.lean LOADS. Nothing in Lean hashes anything: it is a label: what it is worth is what the hold of that sum in a sandbox is worth. -/
noncomputable def Try.pinned : Pinned := { name := "ytoojnpjgnnpllaa", sum := "164847064560ef3c77cf9ce7581a11a9102a7f77d6b79a669f8cfde6471c3fb7", checked := Try.checked }
namespace Rows
def none {H : Type} : Left H := { results := [], args := [] }

/-- 'parlourlaw14.SymmetryActs': WHATEVER THE INPUT: true; the input reads as it did. -/
def symmetryActsSpec : ChangeSpec := { name := "symmetryActs", fn := fun _ => fun
  | [d1, d2, d3, d4, d5] => { results := [.lit (.bool true)], args := [d1, d2, d3, d4, d5] }
  | _ => none }
def symmetryActsRow : OpenClaim := { program := "ytoojnpjgnnpllaa", sum := "164847064560ef3c77cf9ce7581a11a9102a7f77d6b79a669f8cfde6471c3fb7", func := "parlour/parlourlaw14.SymmetryActs", spec := "symmetryActs", unfollowed := true, recurses := true, plainKeys := false, apart := false }
def SymmetryActsSaid : Prop := symmetryActsRow.holds Try.pinned (OpenSpec.ofChange symmetryActsSpec)

/-- ITS FALSE NEIGHBOUR: 'it returns false'. Refute it at one input. -/
def symmetryActsWrong : ChangeSpec := { name := "symmetryActs", fn := fun _ => fun
  | [d1, d2, d3, d4, d5] => { results := [.lit (.bool false)], args := [d1, d2, d3, d4, d5] }
  | _ => none }
def SymmetryActsWrongFalsely : Prop := symmetryActsRow.holds Try.pinned (OpenSpec.ofChange symmetryActsWrong)

/-- 'parlourlaw14.SymmetryFollows': WHATEVER THE INPUT: true; the input reads as it did. -/
def symmetryFollowsSpec : ChangeSpec := { name := "symmetryFollows", fn := fun _ => fun
  | [d1, d2, d3, d4, d5, d6] => { results := [.lit (.bool true)], args := [d1, d2, d3, d4, d5, d6] }
  | _ => none }
def symmetryFollowsRow : OpenClaim := { program := "ytoojnpjgnnpllaa", sum := "164847064560ef3c77cf9ce7581a11a9102a7f77d6b79a669f8cfde6471c3fb7", func := "parlour/parlourlaw14.SymmetryFollows", spec := "symmetryFollows", unfollowed := true, recurses := true, plainKeys := false, apart := false }
def SymmetryFollowsSaid : Prop := symmetryFollowsRow.holds Try.pinned (OpenSpec.ofChange symmetryFollowsSpec)

/-- ITS FALSE NEIGHBOUR: 'it returns false'. Refute it at one input. -/
def symmetryFollowsWrong : ChangeSpec := { name := "symmetryFollows", fn := fun _ => fun
  | [d1, d2, d3, d4, d5, d6] => { results := [.lit (.bool false)], args := [d1, d2, d3, d4, d5, d6] }
  | _ => none }
def SymmetryFollowsWrongFalsely : Prop := symmetryFollowsRow.holds Try.pinned (OpenSpec.ofChange symmetryFollowsWrong)

/-- 'parlourlaw14.SymmetryMaps': WHATEVER THE INPUT: true; the input reads as it did. -/
def symmetryMapsSpec : ChangeSpec := { name := "symmetryMaps", fn := fun _ => fun
  | [d1, d2, d3] => { results := [.lit (.bool true)], args := [d1, d2, d3] }
  | _ => none }
def symmetryMapsRow : OpenClaim := { program := "ytoojnpjgnnpllaa", sum := "164847064560ef3c77cf9ce7581a11a9102a7f77d6b79a669f8cfde6471c3fb7", func := "parlour/parlourlaw14.SymmetryMaps", spec := "symmetryMaps", unfollowed := true, recurses := true, plainKeys := false, apart := false }
def SymmetryMapsSaid : Prop := symmetryMapsRow.holds Try.pinned (OpenSpec.ofChange symmetryMapsSpec)

/-- ITS FALSE NEIGHBOUR: 'it returns false'. Refute it at one input. -/
def symmetryMapsWrong : ChangeSpec := { name := "symmetryMaps", fn := fun _ => fun
  | [d1, d2, d3] => { results := [.lit (.bool false)], args := [d1, d2, d3] }
  | _ => none }
def SymmetryMapsWrongFalsely : Prop := symmetryMapsRow.holds Try.pinned (OpenSpec.ofChange symmetryMapsWrong)

/-- 'parlourlaw34.DealWalks': WHATEVER THE INPUT: true; the input reads as it did. -/
def dealWalksSpec : ChangeSpec := { name := "dealWalks", fn := fun _ => fun
  | [d1, d2, d3] => { results := [.lit (.bool true)], args := [d1, d2, d3] }
  | _ => none }
def dealWalksRow : OpenClaim := { program := "ytoojnpjgnnpllaa", sum := "164847064560ef3c77cf9ce7581a11a9102a7f77d6b79a669f8cfde6471c3fb7", func := "parlour/parlourlaw34.DealWalks", spec := "dealWalks", unfollowed := true, recurses := true, plainKeys := false, apart := false }
def DealWalksSaid : Prop := dealWalksRow.holds Try.pinned (OpenSpec.ofChange dealWalksSpec)

/-- ITS FALSE NEIGHBOUR: 'it returns false'. Refute it at one input. -/
def dealWalksWrong : ChangeSpec := { name := "dealWalks", fn := fun _ => fun
  | [d1, d2, d3] => { results := [.lit (.bool false)], args := [d1, d2, d3] }
  | _ => none }
def DealWalksWrongFalsely : Prop := dealWalksRow.holds Try.pinned (OpenSpec.ofChange dealWalksWrong)

/-- 'parlourlaw34.DealSpreads': WHATEVER THE INPUT: true; the input reads as it did. -/
def dealSpreadsSpec : ChangeSpec := { name := "dealSpreads", fn := fun _ => fun
  | [d1, d2, d3] => { results := [.lit (.bool true)], args := [d1, d2, d3] }
  | _ => none }
def dealSpreadsRow : OpenClaim := { program := "ytoojnpjgnnpllaa", sum := "164847064560ef3c77cf9ce7581a11a9102a7f77d6b79a669f8cfde6471c3fb7", func := "parlour/parlourlaw34.DealSpreads", spec := "dealSpreads", unfollowed := true, recurses := true, plainKeys := false, apart := false }
def DealSpreadsSaid : Prop := dealSpreadsRow.holds Try.pinned (OpenSpec.ofChange dealSpreadsSpec)

/-- ITS FALSE NEIGHBOUR: 'it returns false'. Refute it at one input. -/
def dealSpreadsWrong : ChangeSpec := { name := "dealSpreads", fn := fun _ => fun
  | [d1, d2, d3] => { results := [.lit (.bool false)], args := [d1, d2, d3] }
  | _ => none }
def DealSpreadsWrongFalsely : Prop := dealSpreadsRow.holds Try.pinned (OpenSpec.ofChange dealSpreadsWrong)

/-- 'parlourlaw34.DealPure': WHATEVER THE INPUT: true; the input reads as it did. -/
def dealPureSpec : ChangeSpec := { name := "dealPure", fn := fun _ => fun
  | [d1, d2, d3] => { results := [.lit (.bool true)], args := [d1, d2, d3] }
  | _ => none }
def dealPureRow : OpenClaim := { program := "ytoojnpjgnnpllaa", sum := "164847064560ef3c77cf9ce7581a11a9102a7f77d6b79a669f8cfde6471c3fb7", func := "parlour/parlourlaw34.DealPure", spec := "dealPure", unfollowed := true, recurses := true, plainKeys := false, apart := false }
def DealPureSaid : Prop := dealPureRow.holds Try.pinned (OpenSpec.ofChange dealPureSpec)

/-- ITS FALSE NEIGHBOUR: 'it returns false'. Refute it at one input. -/
def dealPureWrong : ChangeSpec := { name := "dealPure", fn := fun _ => fun
  | [d1, d2, d3] => { results := [.lit (.bool false)], args := [d1, d2, d3] }
  | _ => none }
def DealPureWrongFalsely : Prop := dealPureRow.holds Try.pinned (OpenSpec.ofChange dealPureWrong)

/-- 'parlourlaw34.DealPlays': WHATEVER THE INPUT: true; the input reads as it did. -/
def dealPlaysSpec : ChangeSpec := { name := "dealPlays", fn := fun _ => fun
  | [d1, d2, d3] => { results := [.lit (.bool true)], args := [d1, d2, d3] }
  | _ => none }
def dealPlaysRow : OpenClaim := { program := "ytoojnpjgnnpllaa", sum := "164847064560ef3c77cf9ce7581a11a9102a7f77d6b79a669f8cfde6471c3fb7", func := "parlour/parlourlaw34.DealPlays", spec := "dealPlays", unfollowed := true, recurses := true, plainKeys := false, apart := false }
def DealPlaysSaid : Prop := dealPlaysRow.holds Try.pinned (OpenSpec.ofChange dealPlaysSpec)

/-- ITS FALSE NEIGHBOUR: 'it returns false'. Refute it at one input. -/
def dealPlaysWrong : ChangeSpec := { name := "dealPlays", fn := fun _ => fun
  | [d1, d2, d3] => { results := [.lit (.bool false)], args := [d1, d2, d3] }
  | _ => none }
def DealPlaysWrongFalsely : Prop := dealPlaysRow.holds Try.pinned (OpenSpec.ofChange dealPlaysWrong)

/-- 'parlourlaw15.AbstractJoins': WHATEVER THE INPUT: true; the input reads as it did. -/
def abstractJoinsSpec : ChangeSpec := { name := "abstractJoins", fn := fun _ => fun
  | [d1, d2] => { results := [.lit (.bool true)], args := [d1, d2] }
  | _ => none }
def abstractJoinsRow : OpenClaim := { program := "ytoojnpjgnnpllaa", sum := "164847064560ef3c77cf9ce7581a11a9102a7f77d6b79a669f8cfde6471c3fb7", func := "parlour/parlourlaw15.AbstractJoins", spec := "abstractJoins", unfollowed := true, recurses := true, plainKeys := false, apart := false }
def AbstractJoinsSaid : Prop := abstractJoinsRow.holds Try.pinned (OpenSpec.ofChange abstractJoinsSpec)

/-- ITS FALSE NEIGHBOUR: 'it returns false'. Refute it at one input. -/
def abstractJoinsWrong : ChangeSpec := { name := "abstractJoins", fn := fun _ => fun
  | [d1, d2] => { results := [.lit (.bool false)], args := [d1, d2] }
  | _ => none }
def AbstractJoinsWrongFalsely : Prop := abstractJoinsRow.holds Try.pinned (OpenSpec.ofChange abstractJoinsWrong)

/-- 'parlourlaw15.AbstractPays': WHATEVER THE INPUT: true; the input reads as it did. -/
def abstractPaysSpec : ChangeSpec := { name := "abstractPays", fn := fun _ => fun
  | [d1, d2, d3, d4, d5, d6] => { results := [.lit (.bool true)], args := [d1, d2, d3, d4, d5, d6] }
  | _ => none }
def abstractPaysRow : OpenClaim := { program := "ytoojnpjgnnpllaa", sum := "164847064560ef3c77cf9ce7581a11a9102a7f77d6b79a669f8cfde6471c3fb7", func := "parlour/parlourlaw15.AbstractPays", spec := "abstractPays", unfollowed := true, recurses := true, plainKeys := false, apart := false }
def AbstractPaysSaid : Prop := abstractPaysRow.holds Try.pinned (OpenSpec.ofChange abstractPaysSpec)

/-- ITS FALSE NEIGHBOUR: 'it returns false'. Refute it at one input. -/
def abstractPaysWrong : ChangeSpec := { name := "abstractPays", fn := fun _ => fun
  | [d1, d2, d3, d4, d5, d6] => { results := [.lit (.bool false)], args := [d1, d2, d3, d4, d5, d6] }
  | _ => none }
def AbstractPaysWrongFalsely : Prop := abstractPaysRow.holds Try.pinned (OpenSpec.ofChange abstractPaysWrong)

/-- 'parlourlaw15.AbstractLifts': WHATEVER THE INPUT: true; the input reads as it did. -/
def abstractLiftsSpec : ChangeSpec := { name := "abstractLifts", fn := fun _ => fun
  | [d1, d2, d3] => { results := [.lit (.bool true)], args := [d1, d2, d3] }
  | _ => none }
def abstractLiftsRow : OpenClaim := { program := "ytoojnpjgnnpllaa", sum := "164847064560ef3c77cf9ce7581a11a9102a7f77d6b79a669f8cfde6471c3fb7", func := "parlour/parlourlaw15.AbstractLifts", spec := "abstractLifts", unfollowed := true, recurses := true, plainKeys := false, apart := false }
def AbstractLiftsSaid : Prop := abstractLiftsRow.holds Try.pinned (OpenSpec.ofChange abstractLiftsSpec)

/-- ITS FALSE NEIGHBOUR: 'it returns false'. Refute it at one input. -/
def abstractLiftsWrong : ChangeSpec := { name := "abstractLifts", fn := fun _ => fun
  | [d1, d2, d3] => { results := [.lit (.bool false)], args := [d1, d2, d3] }
  | _ => none }
def AbstractLiftsWrongFalsely : Prop := abstractLiftsRow.holds Try.pinned (OpenSpec.ofChange abstractLiftsWrong)

/-- 'parlourlaw15.AbstractBack': WHATEVER THE INPUT: true; the input reads as it did. -/
def abstractBackSpec : ChangeSpec := { name := "abstractBack", fn := fun _ => fun
  | [d1, d2, d3, d4, d5, d6] => { results := [.lit (.bool true)], args := [d1, d2, d3, d4, d5, d6] }
  | _ => none }
def abstractBackRow : OpenClaim := { program := "ytoojnpjgnnpllaa", sum := "164847064560ef3c77cf9ce7581a11a9102a7f77d6b79a669f8cfde6471c3fb7", func := "parlour/parlourlaw15.AbstractBack", spec := "abstractBack", unfollowed := true, recurses := true, plainKeys := false, apart := false }
def AbstractBackSaid : Prop := abstractBackRow.holds Try.pinned (OpenSpec.ofChange abstractBackSpec)

/-- ITS FALSE NEIGHBOUR: 'it returns false'. Refute it at one input. -/
def abstractBackWrong : ChangeSpec := { name := "abstractBack", fn := fun _ => fun
  | [d1, d2, d3, d4, d5, d6] => { results := [.lit (.bool false)], args := [d1, d2, d3, d4, d5, d6] }
  | _ => none }
def AbstractBackWrongFalsely : Prop := abstractBackRow.holds Try.pinned (OpenSpec.ofChange abstractBackWrong)

/- THE SECOND FORM. 'bulk': how many values and letters a reading holds, each counted each time it is reached (what is shared counts as often as it is met; a slice's spare places count too). A statement '..UptoSaid' is the law's where the arguments, and the package variables that the reading takes, are together of bulk at most 1048576: NARROWER than '..Said'. Prove '..Said' where nothing that the law and all that it calls make is longer than what came in: it says more and counts as full. Else prove '..UptoSaid'. A law counts once. -/
mutual
def uptoBulk {H : Type} : DataW H → Nat
  | .lit (.string bytes) => bytes.length + 1
  | .lit _ => 1
  | .nil => 1
  | .ptr d => uptoBulk d + 1
  | .slice elems spare => uptoBulkAll elems + uptoBulkAll spare + 1
  | .agg parts => uptoBulkAll parts + 1
  | .iface _ d => uptoBulk d + 1
  | .map entries => uptoBulkEntries entries + 1
  | .held _ => 1
def uptoBulkAll {H : Type} : List (DataW H) → Nat
  | [] => 0
  | d :: r => uptoBulk d + uptoBulkAll r
def uptoBulkEntries {H : Type} : List (Lit × DataW H) → Nat
  | [] => 0
  | x :: r => uptoBulkEntry x + uptoBulkEntries r
def uptoBulkEntry {H : Type} : Lit × DataW H → Nat
  | (.string bytes, d) => bytes.length + uptoBulk d + 1
  | (_, d) => uptoBulk d + 1
 end
def uptoSmall : (H : Type) → List (DataW H) → Bool := fun _ ds => decide (uptoBulkAll ds ≤ 1048576)
def OpenSpec.upto (s : _root_.Go.ChangeSpec) : _root_.Go.OpenSpec := { _root_.Go.OpenSpec.ofChange s with cond := some uptoSmall }

/-- 'parlourlaw14.SymmetryActs', WHERE WHAT IT READS IS OF BULK AT MOST 1048576: true; the input reads as it did. -/
def symmetryActsUptoRow : OpenClaim := { program := "ytoojnpjgnnpllaa", sum := "164847064560ef3c77cf9ce7581a11a9102a7f77d6b79a669f8cfde6471c3fb7", func := "parlour/parlourlaw14.SymmetryActs", spec := "symmetryActs", unfollowed := true, recurses := true, plainKeys := false, apart := false, narrowed := true }
def SymmetryActsUptoSaid : Prop := symmetryActsUptoRow.holds Try.pinned (OpenSpec.upto symmetryActsSpec)

/-- 'parlourlaw14.SymmetryFollows', WHERE WHAT IT READS IS OF BULK AT MOST 1048576: true; the input reads as it did. -/
def symmetryFollowsUptoRow : OpenClaim := { program := "ytoojnpjgnnpllaa", sum := "164847064560ef3c77cf9ce7581a11a9102a7f77d6b79a669f8cfde6471c3fb7", func := "parlour/parlourlaw14.SymmetryFollows", spec := "symmetryFollows", unfollowed := true, recurses := true, plainKeys := false, apart := false, narrowed := true }
def SymmetryFollowsUptoSaid : Prop := symmetryFollowsUptoRow.holds Try.pinned (OpenSpec.upto symmetryFollowsSpec)

/-- 'parlourlaw14.SymmetryMaps', WHERE WHAT IT READS IS OF BULK AT MOST 1048576: true; the input reads as it did. -/
def symmetryMapsUptoRow : OpenClaim := { program := "ytoojnpjgnnpllaa", sum := "164847064560ef3c77cf9ce7581a11a9102a7f77d6b79a669f8cfde6471c3fb7", func := "parlour/parlourlaw14.SymmetryMaps", spec := "symmetryMaps", unfollowed := true, recurses := true, plainKeys := false, apart := false, narrowed := true }
def SymmetryMapsUptoSaid : Prop := symmetryMapsUptoRow.holds Try.pinned (OpenSpec.upto symmetryMapsSpec)

/-- 'parlourlaw34.DealWalks', WHERE WHAT IT READS IS OF BULK AT MOST 1048576: true; the input reads as it did. -/
def dealWalksUptoRow : OpenClaim := { program := "ytoojnpjgnnpllaa", sum := "164847064560ef3c77cf9ce7581a11a9102a7f77d6b79a669f8cfde6471c3fb7", func := "parlour/parlourlaw34.DealWalks", spec := "dealWalks", unfollowed := true, recurses := true, plainKeys := false, apart := false, narrowed := true }
def DealWalksUptoSaid : Prop := dealWalksUptoRow.holds Try.pinned (OpenSpec.upto dealWalksSpec)

/-- 'parlourlaw34.DealSpreads', WHERE WHAT IT READS IS OF BULK AT MOST 1048576: true; the input reads as it did. -/
def dealSpreadsUptoRow : OpenClaim := { program := "ytoojnpjgnnpllaa", sum := "164847064560ef3c77cf9ce7581a11a9102a7f77d6b79a669f8cfde6471c3fb7", func := "parlour/parlourlaw34.DealSpreads", spec := "dealSpreads", unfollowed := true, recurses := true, plainKeys := false, apart := false, narrowed := true }
def DealSpreadsUptoSaid : Prop := dealSpreadsUptoRow.holds Try.pinned (OpenSpec.upto dealSpreadsSpec)

/-- 'parlourlaw34.DealPure', WHERE WHAT IT READS IS OF BULK AT MOST 1048576: true; the input reads as it did. -/
def dealPureUptoRow : OpenClaim := { program := "ytoojnpjgnnpllaa", sum := "164847064560ef3c77cf9ce7581a11a9102a7f77d6b79a669f8cfde6471c3fb7", func := "parlour/parlourlaw34.DealPure", spec := "dealPure", unfollowed := true, recurses := true, plainKeys := false, apart := false, narrowed := true }
def DealPureUptoSaid : Prop := dealPureUptoRow.holds Try.pinned (OpenSpec.upto dealPureSpec)

/-- 'parlourlaw34.DealPlays', WHERE WHAT IT READS IS OF BULK AT MOST 1048576: true; the input reads as it did. -/
def dealPlaysUptoRow : OpenClaim := { program := "ytoojnpjgnnpllaa", sum := "164847064560ef3c77cf9ce7581a11a9102a7f77d6b79a669f8cfde6471c3fb7", func := "parlour/parlourlaw34.DealPlays", spec := "dealPlays", unfollowed := true, recurses := true, plainKeys := false, apart := false, narrowed := true }
def DealPlaysUptoSaid : Prop := dealPlaysUptoRow.holds Try.pinned (OpenSpec.upto dealPlaysSpec)

/-- 'parlourlaw15.AbstractJoins', WHERE WHAT IT READS IS OF BULK AT MOST 1048576: true; the input reads as it did. -/
def abstractJoinsUptoRow : OpenClaim := { program := "ytoojnpjgnnpllaa", sum := "164847064560ef3c77cf9ce7581a11a9102a7f77d6b79a669f8cfde6471c3fb7", func := "parlour/parlourlaw15.AbstractJoins", spec := "abstractJoins", unfollowed := true, recurses := true, plainKeys := false, apart := false, narrowed := true }
def AbstractJoinsUptoSaid : Prop := abstractJoinsUptoRow.holds Try.pinned (OpenSpec.upto abstractJoinsSpec)

/-- 'parlourlaw15.AbstractPays', WHERE WHAT IT READS IS OF BULK AT MOST 1048576: true; the input reads as it did. -/
def abstractPaysUptoRow : OpenClaim := { program := "ytoojnpjgnnpllaa", sum := "164847064560ef3c77cf9ce7581a11a9102a7f77d6b79a669f8cfde6471c3fb7", func := "parlour/parlourlaw15.AbstractPays", spec := "abstractPays", unfollowed := true, recurses := true, plainKeys := false, apart := false, narrowed := true }
def AbstractPaysUptoSaid : Prop := abstractPaysUptoRow.holds Try.pinned (OpenSpec.upto abstractPaysSpec)

/-- 'parlourlaw15.AbstractLifts', WHERE WHAT IT READS IS OF BULK AT MOST 1048576: true; the input reads as it did. -/
def abstractLiftsUptoRow : OpenClaim := { program := "ytoojnpjgnnpllaa", sum := "164847064560ef3c77cf9ce7581a11a9102a7f77d6b79a669f8cfde6471c3fb7", func := "parlour/parlourlaw15.AbstractLifts", spec := "abstractLifts", unfollowed := true, recurses := true, plainKeys := false, apart := false, narrowed := true }
def AbstractLiftsUptoSaid : Prop := abstractLiftsUptoRow.holds Try.pinned (OpenSpec.upto abstractLiftsSpec)

/-- 'parlourlaw15.AbstractBack', WHERE WHAT IT READS IS OF BULK AT MOST 1048576: true; the input reads as it did. -/
def abstractBackUptoRow : OpenClaim := { program := "ytoojnpjgnnpllaa", sum := "164847064560ef3c77cf9ce7581a11a9102a7f77d6b79a669f8cfde6471c3fb7", func := "parlour/parlourlaw15.AbstractBack", spec := "abstractBack", unfollowed := true, recurses := true, plainKeys := false, apart := false, narrowed := true }
def AbstractBackUptoSaid : Prop := abstractBackUptoRow.holds Try.pinned (OpenSpec.upto abstractBackSpec)

end Rows
end Go.Proofs.Ytoojnpjgnnpllaa
