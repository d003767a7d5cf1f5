/-
  DERIVED. GIVEN WITH THE SEED: THE CARDS: each row of YtfiflajggimmkaaGreatDoorRows.lean that lists a variable, with what it lists TIED to the program's text (the seventh form; the later family's looks); each row that meets fmt, with fmt's text TOLD by the authors' own Lean function (tested against real Go, not proved from fmt's source: count such statements apart). THE CARD IS WHAT COUNTS. Prove the row's statement (the work); the ties are given (YtfiflajggimmkaaGreatDoorTie.lean); close each card by the builder's one call (the guide's Derived/Test/ToyasCard.lean, 'card_holds'). Laid BY PROGRAM, IN A SANDBOX (cutbox-door.mjs). By AI agents, Wed Nov 11 2026. No macro, syntax, notation, axiom, sorry.
-/
import Derived.Test.YtfiflajggimmkaaGreatDoorRows
import GoSem.ClaimSeven
namespace Go.Proofs.YtfiflajggimmkaaGreatDoor
namespace Rows

/-- THE TIED CARD OF 'emendlaw13.ScopeKnown'. -/
def scopeKnownCard : Claim7 := { stood := { row := scopeKnownRow, standIns := [], harness := (true, "ea66d1b39091477399746d310af13408edb0373b26ecd1eb724170a05a670af7"), looks := true }, kinds := [], alts := [], laidByText := true, laidKinds := [.data, .data, .widerDeep, .widerDeep, .data, .data, .data, .data, .data, .data, .sentinel, .sentinel, .listed, .data, .pinned, .pinned, .pinned], laidTests := true, laidLooks := .later }
def ScopeKnownCardSaid : Prop := Claim7.holds Tryz.pinned (.plain (OpenSpec.ofChange scopeKnownSpec)) scopeKnownCard

/-- THE SECOND FORM's CARD OF 'emendlaw13.ScopeKnown'. -/
def scopeKnownUptoCard : Claim7 := { stood := { row := scopeKnownUptoRow, standIns := [], harness := (true, "ea66d1b39091477399746d310af13408edb0373b26ecd1eb724170a05a670af7"), looks := true }, kinds := [], alts := [], laidByText := true, laidKinds := [.data, .data, .widerDeep, .widerDeep, .data, .data, .data, .data, .data, .data, .sentinel, .sentinel, .listed, .data, .pinned, .pinned, .pinned], laidTests := true, laidLooks := .later }
def ScopeKnownUptoCardSaid : Prop := Claim7.holds Tryz.pinned (.plain (OpenSpec.upto scopeKnownSpec)) scopeKnownUptoCard
end Rows
end Go.Proofs.YtfiflajggimmkaaGreatDoor
