/-
  DERIVED. GIVEN WITH THE SEED: THE CARDS: each row of YtooommicgmbmiaaGreatDoorRows.lean that lists a variable, with what it lists TIED to the program's text (the seventh form; the later family's looks); each row that meets fmt, with fmt's text TOLD by the authors' own Lean function (tested against real Go, not proved from fmt's source: count such statements apart). THE CARD IS WHAT COUNTS. Prove the row's statement (the work); the ties are given (YtooommicgmbmiaaGreatDoorTie.lean); close each card by the builder's one call (the guide's Derived/Test/ToyasCard.lean, 'card_holds'). Laid BY PROGRAM, IN A SANDBOX (cutbox-door.mjs). By AI agents, Wed Nov 11 2026. No macro, syntax, notation, axiom, sorry.
-/
import Derived.Test.YtooommicgmbmiaaGreatDoorRows
import GoSem.ClaimSeven
namespace Go.Proofs.YtooommicgmbmiaaGreatDoor
namespace Rows

/-- THE TIED CARD OF 'emendlaw20.PurityKnown'. -/
def purityKnownCard : Claim7 := { stood := { row := purityKnownRow, standIns := [], harness := (true, "4621150b420480abc13191d5611763f382ddacec9e64076398bfe1eda8f3a4a8"), looks := true }, kinds := [], alts := [], laidByText := true, laidKinds := [.data, .data, .widerDeep, .widerDeep, .data, .data, .data, .data, .data, .data, .sentinel, .sentinel, .listed, .data, .pinned, .pinned, .pinned], laidTests := true, laidLooks := .later }
def PurityKnownCardSaid : Prop := Claim7.holds Tryz.pinned (.plain (OpenSpec.ofChange purityKnownSpec)) purityKnownCard

/-- THE SECOND FORM's CARD OF 'emendlaw20.PurityKnown'. -/
def purityKnownUptoCard : Claim7 := { stood := { row := purityKnownUptoRow, standIns := [], harness := (true, "4621150b420480abc13191d5611763f382ddacec9e64076398bfe1eda8f3a4a8"), looks := true }, kinds := [], alts := [], laidByText := true, laidKinds := [.data, .data, .widerDeep, .widerDeep, .data, .data, .data, .data, .data, .data, .sentinel, .sentinel, .listed, .data, .pinned, .pinned, .pinned], laidTests := true, laidLooks := .later }
def PurityKnownUptoCardSaid : Prop := Claim7.holds Tryz.pinned (.plain (OpenSpec.upto purityKnownSpec)) purityKnownUptoCard
end Rows
end Go.Proofs.YtooommicgmbmiaaGreatDoor
