/-
  DERIVED. GIVEN WITH THE SEED: THE CARDS: each row of YtiiplmagnlcpbaaGreatDoorRows.lean that lists a variable, with what it lists TIED to the program's text (the seventh form; the later family's looks); each row that meets fmt, with fmt's text TOLD by the authors' own Lean function (tested against real Go, not proved from fmt's source: count such statements apart). THE CARD IS WHAT COUNTS. Prove the row's statement (the work); the ties are given (YtiiplmagnlcpbaaGreatDoorTie.lean); close each card by the builder's one call (the guide's Derived/Test/ToyasCard.lean, 'card_holds'). Laid BY PROGRAM, IN A SANDBOX (cutbox-door.mjs). By AI agents, Wed Nov 11 2026. No macro, syntax, notation, axiom, sorry.
-/
import Derived.Test.YtiiplmagnlcpbaaGreatDoorRows
import GoSem.ClaimSeven
namespace Go.Proofs.YtiiplmagnlcpbaaGreatDoor
namespace Rows

/-- THE TIED CARD OF 'parlourlaw34.DealReaches'. -/
def dealReachesCard : Claim7 := { stood := { row := dealReachesRow, standIns := [], harness := (true, "1880d0bccfeda0f546c4396cf4cb12bd2be256d90f2847f08fd014d17b3a619d"), looks := false }, kinds := [], alts := [], laidByText := true, laidKinds := [.data], laidTests := true, laidLooks := .later }
def DealReachesCardSaid : Prop := Claim7.holds Tryz.pinned (.plain (OpenSpec.ofChange dealReachesSpec)) dealReachesCard

/-- THE TIED CARD OF 'parlourlaw34.DealKnown'. -/
def dealKnownCard : Claim7 := { stood := { row := dealKnownRow, standIns := [], harness := (true, "1880d0bccfeda0f546c4396cf4cb12bd2be256d90f2847f08fd014d17b3a619d"), looks := false }, kinds := [], alts := [], laidByText := true, laidKinds := [.data], laidTests := true, laidLooks := .later }
def DealKnownCardSaid : Prop := Claim7.holds Tryz.pinned (.plain (OpenSpec.ofChange dealKnownSpec)) dealKnownCard

/-- THE TIED CARD OF 'parlourlaw34.DealMeans'. -/
def dealMeansCard : Claim7 := { stood := { row := dealMeansRow, standIns := [], harness := (true, "1880d0bccfeda0f546c4396cf4cb12bd2be256d90f2847f08fd014d17b3a619d"), looks := false }, kinds := [], alts := [], laidByText := true, laidKinds := [.data], laidTests := true, laidLooks := .later }
def DealMeansCardSaid : Prop := Claim7.holds Tryz.pinned (.plain (OpenSpec.ofChange dealMeansSpec)) dealMeansCard

/-- THE SECOND FORM's CARD OF 'parlourlaw34.DealReaches'. -/
def dealReachesUptoCard : Claim7 := { stood := { row := dealReachesUptoRow, standIns := [], harness := (true, "1880d0bccfeda0f546c4396cf4cb12bd2be256d90f2847f08fd014d17b3a619d"), looks := false }, kinds := [], alts := [], laidByText := true, laidKinds := [.data], laidTests := true, laidLooks := .later }
def DealReachesUptoCardSaid : Prop := Claim7.holds Tryz.pinned (.plain (OpenSpec.upto dealReachesSpec)) dealReachesUptoCard

/-- THE SECOND FORM's CARD OF 'parlourlaw34.DealKnown'. -/
def dealKnownUptoCard : Claim7 := { stood := { row := dealKnownUptoRow, standIns := [], harness := (true, "1880d0bccfeda0f546c4396cf4cb12bd2be256d90f2847f08fd014d17b3a619d"), looks := false }, kinds := [], alts := [], laidByText := true, laidKinds := [.data], laidTests := true, laidLooks := .later }
def DealKnownUptoCardSaid : Prop := Claim7.holds Tryz.pinned (.plain (OpenSpec.upto dealKnownSpec)) dealKnownUptoCard

/-- THE SECOND FORM's CARD OF 'parlourlaw34.DealMeans'. -/
def dealMeansUptoCard : Claim7 := { stood := { row := dealMeansUptoRow, standIns := [], harness := (true, "1880d0bccfeda0f546c4396cf4cb12bd2be256d90f2847f08fd014d17b3a619d"), looks := false }, kinds := [], alts := [], laidByText := true, laidKinds := [.data], laidTests := true, laidLooks := .later }
def DealMeansUptoCardSaid : Prop := Claim7.holds Tryz.pinned (.plain (OpenSpec.upto dealMeansSpec)) dealMeansUptoCard
end Rows
end Go.Proofs.YtiiplmagnlcpbaaGreatDoor
