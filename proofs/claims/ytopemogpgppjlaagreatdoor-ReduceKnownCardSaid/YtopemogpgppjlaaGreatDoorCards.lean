/-
  DERIVED. GIVEN WITH THE SEED: THE CARDS: each row of YtopemogpgppjlaaGreatDoorRows.lean that lists a variable, with what it lists TIED to the program's text (the seventh form; the later family's looks); each row that meets fmt, with fmt's text TOLD by the authors' own Lean function (tested against real Go, not proved from fmt's source: count such statements apart). THE CARD IS WHAT COUNTS. Prove the row's statement (the work); the ties are given (YtopemogpgppjlaaGreatDoorTie.lean); close each card by the builder's one call (the guide's Derived/Test/ToyasCard.lean, 'card_holds'). Laid BY PROGRAM, IN A SANDBOX (cutbox-door.mjs). By AI agents, Wed Nov 11 2026. No macro, syntax, notation, axiom, sorry.
-/
import Derived.Test.YtopemogpgppjlaaGreatDoorRows
import GoSem.ClaimSeven
namespace Go.Proofs.YtopemogpgppjlaaGreatDoor
namespace Rows

/-- THE TIED CARD OF 'parlourlaw34.DealKnown'. -/
def dealKnownCard : Claim7 := { stood := { row := dealKnownRow, standIns := [], harness := (true, "4ed337c3f0734129ea7f5c3a7a06f3de61f7a80fa7dac32dc9d0730c1864b2d3"), looks := false }, kinds := [], alts := [], laidByText := true, laidKinds := [.data], laidTests := true, laidLooks := .later }
def DealKnownCardSaid : Prop := Claim7.holds Tryz.pinned (.plain (OpenSpec.ofChange dealKnownSpec)) dealKnownCard

/-- THE TIED CARD OF 'parlourlaw39.ReduceKnown'. -/
def reduceKnownCard : Claim7 := { stood := { row := reduceKnownRow, standIns := [], harness := (true, "4ed337c3f0734129ea7f5c3a7a06f3de61f7a80fa7dac32dc9d0730c1864b2d3"), looks := false }, kinds := [], alts := [], laidByText := true, laidKinds := [.data], laidTests := true, laidLooks := .later }
def ReduceKnownCardSaid : Prop := Claim7.holds Tryz.pinned (.plain (OpenSpec.ofChange reduceKnownSpec)) reduceKnownCard

/-- THE TIED CARD OF 'parlourlaw20.NormalNames'. -/
def normalNamesCard : Claim7 := { stood := { row := normalNamesRow, standIns := [], harness := (true, "4ed337c3f0734129ea7f5c3a7a06f3de61f7a80fa7dac32dc9d0730c1864b2d3"), looks := false }, kinds := [], alts := [], laidByText := true, laidKinds := [.data], laidTests := true, laidLooks := .later }
def NormalNamesCardSaid : Prop := Claim7.holds Tryz.pinned (.plain (OpenSpec.ofChange normalNamesSpec)) normalNamesCard

/-- THE SECOND FORM's CARD OF 'parlourlaw34.DealKnown'. -/
def dealKnownUptoCard : Claim7 := { stood := { row := dealKnownUptoRow, standIns := [], harness := (true, "4ed337c3f0734129ea7f5c3a7a06f3de61f7a80fa7dac32dc9d0730c1864b2d3"), looks := false }, kinds := [], alts := [], laidByText := true, laidKinds := [.data], laidTests := true, laidLooks := .later }
def DealKnownUptoCardSaid : Prop := Claim7.holds Tryz.pinned (.plain (OpenSpec.upto dealKnownSpec)) dealKnownUptoCard

/-- THE SECOND FORM's CARD OF 'parlourlaw39.ReduceKnown'. -/
def reduceKnownUptoCard : Claim7 := { stood := { row := reduceKnownUptoRow, standIns := [], harness := (true, "4ed337c3f0734129ea7f5c3a7a06f3de61f7a80fa7dac32dc9d0730c1864b2d3"), looks := false }, kinds := [], alts := [], laidByText := true, laidKinds := [.data], laidTests := true, laidLooks := .later }
def ReduceKnownUptoCardSaid : Prop := Claim7.holds Tryz.pinned (.plain (OpenSpec.upto reduceKnownSpec)) reduceKnownUptoCard

/-- THE SECOND FORM's CARD OF 'parlourlaw20.NormalNames'. -/
def normalNamesUptoCard : Claim7 := { stood := { row := normalNamesUptoRow, standIns := [], harness := (true, "4ed337c3f0734129ea7f5c3a7a06f3de61f7a80fa7dac32dc9d0730c1864b2d3"), looks := false }, kinds := [], alts := [], laidByText := true, laidKinds := [.data], laidTests := true, laidLooks := .later }
def NormalNamesUptoCardSaid : Prop := Claim7.holds Tryz.pinned (.plain (OpenSpec.upto normalNamesSpec)) normalNamesUptoCard
end Rows
end Go.Proofs.YtopemogpgppjlaaGreatDoor
