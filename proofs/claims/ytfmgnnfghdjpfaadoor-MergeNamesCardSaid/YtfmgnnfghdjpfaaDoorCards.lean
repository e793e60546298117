/-
  DERIVED. GIVEN WITH THE SEED: THE CARDS: each row of YtfmgnnfghdjpfaaDoorRows.lean that lists a variable, with what it lists TIED to the program's text (the seventh form; the later family's looks); each row that meets fmt, with fmt's text TOLD by the authors' own Lean function (tested against real Go, not proved from fmt's source: count such statements apart). THE CARD IS WHAT COUNTS. Prove the row's statement (the work); the ties are given (YtfmgnnfghdjpfaaDoorTie.lean); close each card by the builder's one call (the guide's Derived/Test/ToyasCard.lean, 'card_holds'). Laid BY PROGRAM, IN A SANDBOX (cutbox-door.mjs). By AI agents, Wed Nov 11 2026. No macro, syntax, notation, axiom, sorry.
-/
import Derived.Test.YtfmgnnfghdjpfaaDoorRows
import GoSem.ClaimSeven
namespace Go.Proofs.YtfmgnnfghdjpfaaDoor
namespace Rows

/-- THE TIED CARD OF 'parlourlaw13.MergeGraphs'. -/
def mergeGraphsCard : Claim7 := { stood := { row := mergeGraphsRow, standIns := [], harness := (true, "d6f9e4a533ec34c21a0d1870f237e5fb026b24809d6f960051a8e6fc22a92d1f"), looks := false }, kinds := [], alts := [], laidByText := true, laidKinds := [.data, .data, .data], laidTests := true, laidLooks := .later }
def MergeGraphsCardSaid : Prop := Claim7.holds Tryd.pinned (.plain (OpenSpec.ofChange mergeGraphsSpec)) mergeGraphsCard

/-- THE TIED CARD OF 'parlourlaw13.MergeBack'. -/
def mergeBackCard : Claim7 := { stood := { row := mergeBackRow, standIns := [], harness := (true, "d6f9e4a533ec34c21a0d1870f237e5fb026b24809d6f960051a8e6fc22a92d1f"), looks := false }, kinds := [], alts := [], laidByText := true, laidKinds := [.data, .data, .data], laidTests := true, laidLooks := .later }
def MergeBackCardSaid : Prop := Claim7.holds Tryd.pinned (.plain (OpenSpec.ofChange mergeBackSpec)) mergeBackCard

/-- THE TIED CARD OF 'parlourlaw13.MergeNames'. -/
def mergeNamesCard : Claim7 := { stood := { row := mergeNamesRow, standIns := [], harness := (true, "d6f9e4a533ec34c21a0d1870f237e5fb026b24809d6f960051a8e6fc22a92d1f"), looks := false }, kinds := [], alts := [], laidByText := true, laidKinds := [.data, .data, .data], laidTests := true, laidLooks := .later }
def MergeNamesCardSaid : Prop := Claim7.holds Tryd.pinned (.plain (OpenSpec.ofChange mergeNamesSpec)) mergeNamesCard

/-- THE SECOND FORM's CARD OF 'parlourlaw13.MergeGraphs'. -/
def mergeGraphsUptoCard : Claim7 := { stood := { row := mergeGraphsUptoRow, standIns := [], harness := (true, "d6f9e4a533ec34c21a0d1870f237e5fb026b24809d6f960051a8e6fc22a92d1f"), looks := false }, kinds := [], alts := [], laidByText := true, laidKinds := [.data, .data, .data], laidTests := true, laidLooks := .later }
def MergeGraphsUptoCardSaid : Prop := Claim7.holds Tryd.pinned (.plain (OpenSpec.upto mergeGraphsSpec)) mergeGraphsUptoCard

/-- THE SECOND FORM's CARD OF 'parlourlaw13.MergeBack'. -/
def mergeBackUptoCard : Claim7 := { stood := { row := mergeBackUptoRow, standIns := [], harness := (true, "d6f9e4a533ec34c21a0d1870f237e5fb026b24809d6f960051a8e6fc22a92d1f"), looks := false }, kinds := [], alts := [], laidByText := true, laidKinds := [.data, .data, .data], laidTests := true, laidLooks := .later }
def MergeBackUptoCardSaid : Prop := Claim7.holds Tryd.pinned (.plain (OpenSpec.upto mergeBackSpec)) mergeBackUptoCard

/-- THE SECOND FORM's CARD OF 'parlourlaw13.MergeNames'. -/
def mergeNamesUptoCard : Claim7 := { stood := { row := mergeNamesUptoRow, standIns := [], harness := (true, "d6f9e4a533ec34c21a0d1870f237e5fb026b24809d6f960051a8e6fc22a92d1f"), looks := false }, kinds := [], alts := [], laidByText := true, laidKinds := [.data, .data, .data], laidTests := true, laidLooks := .later }
def MergeNamesUptoCardSaid : Prop := Claim7.holds Tryd.pinned (.plain (OpenSpec.upto mergeNamesSpec)) mergeNamesUptoCard
end Rows
end Go.Proofs.YtfmgnnfghdjpfaaDoor
