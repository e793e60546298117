/-
  DERIVED. GIVEN WITH THE SEED: THE CARDS: each row of YtopemogpgppjlaaDoorRows.lean that lists a variable, with what it lists TIED to the program's text (the seventh form; the later family's looks); each row that meets fmt, with fmt's text TOLD by the authors' own Lean function (tested against real Go, not proved from fmt's source: count such statements apart). THE CARD IS WHAT COUNTS. Prove the row's statement (the work); the ties are given (YtopemogpgppjlaaDoorTie.lean); close each card by the builder's one call (the guide's Derived/Test/ToyasCard.lean, 'card_holds'). Laid BY PROGRAM, IN A SANDBOX (cutbox-door.mjs). By AI agents, Wed Nov 11 2026. No macro, syntax, notation, axiom, sorry.
-/
import Derived.Test.YtopemogpgppjlaaDoorRows
import GoSem.ClaimSeven
namespace Go.Proofs.YtopemogpgppjlaaDoor
namespace Rows

/-- THE TIED CARD OF 'parlourlaw02.RatKnown'. -/
def ratKnownCard : Claim7 := { stood := { row := ratKnownRow, standIns := [], harness := (true, "6d9410a6ee52e52f3cf1a59b7c06a7d524c4b335c8459649916cf9d85d01abab"), looks := false }, kinds := [], alts := [], laidByText := true, laidKinds := [.data, .data], laidTests := true, laidLooks := .later }
def RatKnownCardSaid : Prop := Claim7.holds Tryd.pinned (.plain (OpenSpec.ofChange ratKnownSpec)) ratKnownCard

/-- THE TIED CARD OF 'parlourlaw40.IntervalKnown'. -/
def intervalKnownCard : Claim7 := { stood := { row := intervalKnownRow, standIns := [], harness := (true, "6d9410a6ee52e52f3cf1a59b7c06a7d524c4b335c8459649916cf9d85d01abab"), looks := false }, kinds := [], alts := [], laidByText := true, laidKinds := [.data], laidTests := true, laidLooks := .later }
def IntervalKnownCardSaid : Prop := Claim7.holds Tryd.pinned (.plain (OpenSpec.ofChange intervalKnownSpec)) intervalKnownCard

/-- THE SECOND FORM's CARD OF 'parlourlaw02.RatKnown'. -/
def ratKnownUptoCard : Claim7 := { stood := { row := ratKnownUptoRow, standIns := [], harness := (true, "6d9410a6ee52e52f3cf1a59b7c06a7d524c4b335c8459649916cf9d85d01abab"), looks := false }, kinds := [], alts := [], laidByText := true, laidKinds := [.data, .data], laidTests := true, laidLooks := .later }
def RatKnownUptoCardSaid : Prop := Claim7.holds Tryd.pinned (.plain (OpenSpec.upto ratKnownSpec)) ratKnownUptoCard

/-- THE SECOND FORM's CARD OF 'parlourlaw40.IntervalKnown'. -/
def intervalKnownUptoCard : Claim7 := { stood := { row := intervalKnownUptoRow, standIns := [], harness := (true, "6d9410a6ee52e52f3cf1a59b7c06a7d524c4b335c8459649916cf9d85d01abab"), looks := false }, kinds := [], alts := [], laidByText := true, laidKinds := [.data], laidTests := true, laidLooks := .later }
def IntervalKnownUptoCardSaid : Prop := Claim7.holds Tryd.pinned (.plain (OpenSpec.upto intervalKnownSpec)) intervalKnownUptoCard
end Rows
end Go.Proofs.YtopemogpgppjlaaDoor
