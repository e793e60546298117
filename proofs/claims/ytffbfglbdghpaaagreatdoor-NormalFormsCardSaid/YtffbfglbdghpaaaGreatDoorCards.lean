/-
  DERIVED. GIVEN WITH THE SEED: THE CARDS: each row of YtffbfglbdghpaaaGreatDoorRows.lean that lists a variable, with what it lists TIED to the program's text (the seventh form; the later family's looks); each row that meets fmt, with fmt's text TOLD by the authors' own Lean function (tested against real Go, not proved from fmt's source: count such statements apart). THE CARD IS WHAT COUNTS. Prove the row's statement (the work); the ties are given (YtffbfglbdghpaaaGreatDoorTie.lean); close each card by the builder's one call (the guide's Derived/Test/ToyasCard.lean, 'card_holds'). Laid BY PROGRAM, IN A SANDBOX (cutbox-door.mjs). By AI agents, Wed Nov 11 2026. No macro, syntax, notation, axiom, sorry.
-/
import Derived.Test.YtffbfglbdghpaaaGreatDoorRows
import GoSem.ClaimSeven
namespace Go.Proofs.YtffbfglbdghpaaaGreatDoor
namespace Rows

/-- THE TIED CARD OF 'parlourlaw20.NormalForms'. -/
def normalFormsCard : Claim7 := { stood := { row := normalFormsRow, standIns := [], harness := (true, "8241af4581dd8a0ca4ec899809304af40038add53b5e82c7217285f37d384c1c"), looks := false }, kinds := [], alts := [], laidByText := true, laidKinds := [.data], laidTests := true, laidLooks := .later }
def NormalFormsCardSaid : Prop := Claim7.holds Tryz.pinned (.plain (OpenSpec.ofChange normalFormsSpec)) normalFormsCard

/-- THE SECOND FORM's CARD OF 'parlourlaw20.NormalForms'. -/
def normalFormsUptoCard : Claim7 := { stood := { row := normalFormsUptoRow, standIns := [], harness := (true, "8241af4581dd8a0ca4ec899809304af40038add53b5e82c7217285f37d384c1c"), looks := false }, kinds := [], alts := [], laidByText := true, laidKinds := [.data], laidTests := true, laidLooks := .later }
def NormalFormsUptoCardSaid : Prop := Claim7.holds Tryz.pinned (.plain (OpenSpec.upto normalFormsSpec)) normalFormsUptoCard
end Rows
end Go.Proofs.YtffbfglbdghpaaaGreatDoor
