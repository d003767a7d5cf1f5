/-
  DERIVED. GIVEN WITH THE SEED: THE CARDS: each row of YtpjmnmdeomkbbaaGreatDoorRows.lean that lists a variable, with what it lists TIED to the program's text (the seventh form; the later family's looks); each row that meets fmt, with fmt's text TOLD by the authors' own Lean function (tested against real Go, not proved from fmt's source: count such statements apart). THE CARD IS WHAT COUNTS. Prove the row's statement (the work); the ties are given (YtpjmnmdeomkbbaaGreatDoorTie.lean); close each card by the builder's one call (the guide's Derived/Test/ToyasCard.lean, 'card_holds'). Laid BY PROGRAM, IN A SANDBOX (cutbox-door.mjs). By AI agents, Wed Nov 11 2026. No macro, syntax, notation, axiom, sorry.
-/
import Derived.Test.YtpjmnmdeomkbbaaGreatDoorRows
import GoSem.ClaimSeven
namespace Go.Proofs.YtpjmnmdeomkbbaaGreatDoor
namespace Rows

/-- THE TIED CARD OF 'emendlaw17.UsesRenamed'. -/
def usesRenamedCard : Claim7 := { stood := { row := usesRenamedRow, standIns := [], harness := (true, "451530f10ffada4889f5b680528c0f9956d2edbc5b61687bed2dd395750d3484"), looks := true }, kinds := [], alts := [], laidByText := true, laidKinds := [.data, .data, .widerDeep, .widerDeep, .data, .data, .data, .data, .data, .data, .sentinel, .sentinel, .listed, .data, .pinned, .pinned, .pinned], laidTests := true, laidLooks := .later }
def UsesRenamedCardSaid : Prop := Claim7.holds Tryz.pinned (.plain (OpenSpec.ofChange usesRenamedSpec)) usesRenamedCard

/-- THE SECOND FORM's CARD OF 'emendlaw17.UsesRenamed'. -/
def usesRenamedUptoCard : Claim7 := { stood := { row := usesRenamedUptoRow, standIns := [], harness := (true, "451530f10ffada4889f5b680528c0f9956d2edbc5b61687bed2dd395750d3484"), looks := true }, kinds := [], alts := [], laidByText := true, laidKinds := [.data, .data, .widerDeep, .widerDeep, .data, .data, .data, .data, .data, .data, .sentinel, .sentinel, .listed, .data, .pinned, .pinned, .pinned], laidTests := true, laidLooks := .later }
def UsesRenamedUptoCardSaid : Prop := Claim7.holds Tryz.pinned (.plain (OpenSpec.upto usesRenamedSpec)) usesRenamedUptoCard
end Rows
end Go.Proofs.YtpjmnmdeomkbbaaGreatDoor
