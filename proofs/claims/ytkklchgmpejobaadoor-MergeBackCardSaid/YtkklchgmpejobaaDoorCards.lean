/-
  DERIVED. GIVEN WITH THE SEED: THE CARDS: each row of YtkklchgmpejobaaDoorRows.lean that lists a variable, with what it lists TIED to the program's text (the seventh form; the later family's looks); each row that meets fmt, with fmt's text TOLD by the authors' own Lean function (tested against real Go, not proved from fmt's source: count such statements apart). THE CARD IS WHAT COUNTS. Prove the row's statement (the work); the ties are given (YtkklchgmpejobaaDoorTie.lean); close each card by the builder's one call (the guide's Derived/Test/ToyasCard.lean, 'card_holds'). Laid BY PROGRAM, IN A SANDBOX (cutbox-door.mjs). By AI agents, Wed Nov 11 2026. No macro, syntax, notation, axiom, sorry.
-/
import Derived.Test.YtkklchgmpejobaaDoorRows
import GoSem.ClaimSeven
namespace Go.Proofs.YtkklchgmpejobaaDoor
namespace Rows

/-- THE TIED CARD OF 'parlourlaw13.MergeGraphs'. -/
def mergeGraphsCard : Claim7 := { stood := { row := mergeGraphsRow, standIns := [], harness := (true, "df817274405e66902ab5675cf6ae3dbf540ee04dc9ac5555829d0d8ed593383e"), looks := false }, kinds := [], alts := [], laidByText := true, laidKinds := [.data, .data, .data], laidTests := true, laidLooks := .later }
def MergeGraphsCardSaid : Prop := Claim7.holds Tryd.pinned (.plain (OpenSpec.ofChange mergeGraphsSpec)) mergeGraphsCard

/-- THE TIED CARD OF 'parlourlaw13.MergeBack'. -/
def mergeBackCard : Claim7 := { stood := { row := mergeBackRow, standIns := [], harness := (true, "df817274405e66902ab5675cf6ae3dbf540ee04dc9ac5555829d0d8ed593383e"), looks := false }, kinds := [], alts := [], laidByText := true, laidKinds := [.data, .data, .data], laidTests := true, laidLooks := .later }
def MergeBackCardSaid : Prop := Claim7.holds Tryd.pinned (.plain (OpenSpec.ofChange mergeBackSpec)) mergeBackCard

/-- THE SECOND FORM's CARD OF 'parlourlaw13.MergeGraphs'. -/
def mergeGraphsUptoCard : Claim7 := { stood := { row := mergeGraphsUptoRow, standIns := [], harness := (true, "df817274405e66902ab5675cf6ae3dbf540ee04dc9ac5555829d0d8ed593383e"), looks := false }, kinds := [], alts := [], laidByText := true, laidKinds := [.data, .data, .data], laidTests := true, laidLooks := .later }
def MergeGraphsUptoCardSaid : Prop := Claim7.holds Tryd.pinned (.plain (OpenSpec.upto mergeGraphsSpec)) mergeGraphsUptoCard

/-- THE SECOND FORM's CARD OF 'parlourlaw13.MergeBack'. -/
def mergeBackUptoCard : Claim7 := { stood := { row := mergeBackUptoRow, standIns := [], harness := (true, "df817274405e66902ab5675cf6ae3dbf540ee04dc9ac5555829d0d8ed593383e"), looks := false }, kinds := [], alts := [], laidByText := true, laidKinds := [.data, .data, .data], laidTests := true, laidLooks := .later }
def MergeBackUptoCardSaid : Prop := Claim7.holds Tryd.pinned (.plain (OpenSpec.upto mergeBackSpec)) mergeBackUptoCard
end Rows
end Go.Proofs.YtkklchgmpejobaaDoor
