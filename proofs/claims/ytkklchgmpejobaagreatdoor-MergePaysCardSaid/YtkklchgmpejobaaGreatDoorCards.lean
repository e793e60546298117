/-
  DERIVED. GIVEN WITH THE SEED: THE CARDS: each row of YtkklchgmpejobaaGreatDoorRows.lean that lists a variable, with what it lists TIED to the program's text (the seventh form; the later family's looks); each row that meets fmt, with fmt's text TOLD by the authors' own Lean function (tested against real Go, not proved from fmt's source: count such statements apart). THE CARD IS WHAT COUNTS. Prove the row's statement (the work); the ties are given (YtkklchgmpejobaaGreatDoorTie.lean); close each card by the builder's one call (the guide's Derived/Test/ToyasCard.lean, 'card_holds'). Laid BY PROGRAM, IN A SANDBOX (cutbox-door.mjs). By AI agents, Wed Nov 11 2026. No macro, syntax, notation, axiom, sorry.
-/
import Derived.Test.YtkklchgmpejobaaGreatDoorRows
import GoSem.ClaimSeven
namespace Go.Proofs.YtkklchgmpejobaaGreatDoor
namespace Rows

/-- THE TIED CARD OF 'parlourlaw13.MergePays'. -/
def mergePaysCard : Claim7 := { stood := { row := mergePaysRow, standIns := [], harness := (true, "2e0d921ead06d13edf23c6635fede19248a4267dc1c32cb0d0452a5ece2e989b"), looks := false }, kinds := [], alts := [], laidByText := true, laidKinds := [.data, .data, .data], laidTests := true, laidLooks := .later }
def MergePaysCardSaid : Prop := Claim7.holds Tryz.pinned (.plain (OpenSpec.ofChange mergePaysSpec)) mergePaysCard

/-- THE TIED CARD OF 'parlourlaw13.MergeUnfolds'. -/
def mergeUnfoldsCard : Claim7 := { stood := { row := mergeUnfoldsRow, standIns := [], harness := (true, "2e0d921ead06d13edf23c6635fede19248a4267dc1c32cb0d0452a5ece2e989b"), looks := false }, kinds := [], alts := [], laidByText := true, laidKinds := [.data, .data, .data], laidTests := true, laidLooks := .later }
def MergeUnfoldsCardSaid : Prop := Claim7.holds Tryz.pinned (.plain (OpenSpec.ofChange mergeUnfoldsSpec)) mergeUnfoldsCard

/-- THE TIED CARD OF 'parlourlaw13.MergeShares'. -/
def mergeSharesCard : Claim7 := { stood := { row := mergeSharesRow, standIns := [], harness := (true, "2e0d921ead06d13edf23c6635fede19248a4267dc1c32cb0d0452a5ece2e989b"), looks := false }, kinds := [], alts := [], laidByText := true, laidKinds := [.data, .data, .data], laidTests := true, laidLooks := .later }
def MergeSharesCardSaid : Prop := Claim7.holds Tryz.pinned (.plain (OpenSpec.ofChange mergeSharesSpec)) mergeSharesCard

/-- THE SECOND FORM's CARD OF 'parlourlaw13.MergePays'. -/
def mergePaysUptoCard : Claim7 := { stood := { row := mergePaysUptoRow, standIns := [], harness := (true, "2e0d921ead06d13edf23c6635fede19248a4267dc1c32cb0d0452a5ece2e989b"), looks := false }, kinds := [], alts := [], laidByText := true, laidKinds := [.data, .data, .data], laidTests := true, laidLooks := .later }
def MergePaysUptoCardSaid : Prop := Claim7.holds Tryz.pinned (.plain (OpenSpec.upto mergePaysSpec)) mergePaysUptoCard

/-- THE SECOND FORM's CARD OF 'parlourlaw13.MergeUnfolds'. -/
def mergeUnfoldsUptoCard : Claim7 := { stood := { row := mergeUnfoldsUptoRow, standIns := [], harness := (true, "2e0d921ead06d13edf23c6635fede19248a4267dc1c32cb0d0452a5ece2e989b"), looks := false }, kinds := [], alts := [], laidByText := true, laidKinds := [.data, .data, .data], laidTests := true, laidLooks := .later }
def MergeUnfoldsUptoCardSaid : Prop := Claim7.holds Tryz.pinned (.plain (OpenSpec.upto mergeUnfoldsSpec)) mergeUnfoldsUptoCard

/-- THE SECOND FORM's CARD OF 'parlourlaw13.MergeShares'. -/
def mergeSharesUptoCard : Claim7 := { stood := { row := mergeSharesUptoRow, standIns := [], harness := (true, "2e0d921ead06d13edf23c6635fede19248a4267dc1c32cb0d0452a5ece2e989b"), looks := false }, kinds := [], alts := [], laidByText := true, laidKinds := [.data, .data, .data], laidTests := true, laidLooks := .later }
def MergeSharesUptoCardSaid : Prop := Claim7.holds Tryz.pinned (.plain (OpenSpec.upto mergeSharesSpec)) mergeSharesUptoCard
end Rows
end Go.Proofs.YtkklchgmpejobaaGreatDoor
