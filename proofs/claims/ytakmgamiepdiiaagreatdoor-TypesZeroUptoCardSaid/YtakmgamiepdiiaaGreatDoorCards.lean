/-
  DERIVED. GIVEN WITH THE SEED: THE CARDS: each row of YtakmgamiepdiiaaGreatDoorRows.lean that lists a variable, with what it lists TIED to the program's text (the seventh form; the later family's looks); each row that meets fmt, with fmt's text TOLD by the authors' own Lean function (tested against real Go, not proved from fmt's source: count such statements apart). THE CARD IS WHAT COUNTS. Prove the row's statement (the work); the ties are given (YtakmgamiepdiiaaGreatDoorTie.lean); close each card by the builder's one call (the guide's Derived/Test/ToyasCard.lean, 'card_holds'). Laid BY PROGRAM, IN A SANDBOX (cutbox-door.mjs). By AI agents, Wed Nov 11 2026. No macro, syntax, notation, axiom, sorry.
-/
import Derived.Test.YtakmgamiepdiiaaGreatDoorRows
import GoSem.ClaimSeven
namespace Go.Proofs.YtakmgamiepdiiaaGreatDoor
namespace Rows

/-- THE TIED CARD OF 'emendlaw14.TypesZero'. -/
def typesZeroCard : Claim7 := { stood := { row := typesZeroRow, standIns := [], harness := (true, "86f7d5d666d6931fb973f7c90ff61d5b53146f88cde6e865f6bbadc66162bc27"), looks := true }, kinds := [], alts := [], laidByText := true, laidKinds := [.data, .data, .widerDeep, .widerDeep, .data, .data, .data, .data, .data, .data, .sentinel, .sentinel, .listed, .data, .pinned, .pinned, .pinned], laidTests := true, laidLooks := .later }
def TypesZeroCardSaid : Prop := Claim7.holds Tryz.pinned (.plain (OpenSpec.ofChange typesZeroSpec)) typesZeroCard

/-- THE SECOND FORM's CARD OF 'emendlaw14.TypesZero'. -/
def typesZeroUptoCard : Claim7 := { stood := { row := typesZeroUptoRow, standIns := [], harness := (true, "86f7d5d666d6931fb973f7c90ff61d5b53146f88cde6e865f6bbadc66162bc27"), looks := true }, kinds := [], alts := [], laidByText := true, laidKinds := [.data, .data, .widerDeep, .widerDeep, .data, .data, .data, .data, .data, .data, .sentinel, .sentinel, .listed, .data, .pinned, .pinned, .pinned], laidTests := true, laidLooks := .later }
def TypesZeroUptoCardSaid : Prop := Claim7.holds Tryz.pinned (.plain (OpenSpec.upto typesZeroSpec)) typesZeroUptoCard
end Rows
end Go.Proofs.YtakmgamiepdiiaaGreatDoor
