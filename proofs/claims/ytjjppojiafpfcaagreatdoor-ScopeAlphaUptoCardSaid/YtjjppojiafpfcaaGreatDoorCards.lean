/-
  DERIVED. GIVEN WITH THE SEED: THE CARDS: each row of YtjjppojiafpfcaaGreatDoorRows.lean that lists a variable, with what it lists TIED to the program's text (the seventh form; the later family's looks); each row that meets fmt, with fmt's text TOLD by the authors' own Lean function (tested against real Go, not proved from fmt's source: count such statements apart). THE CARD IS WHAT COUNTS. Prove the row's statement (the work); the ties are given (YtjjppojiafpfcaaGreatDoorTie.lean); close each card by the builder's one call (the guide's Derived/Test/ToyasCard.lean, 'card_holds'). Laid BY PROGRAM, IN A SANDBOX (cutbox-door.mjs). By AI agents, Wed Nov 11 2026. No macro, syntax, notation, axiom, sorry.
-/
import Derived.Test.YtjjppojiafpfcaaGreatDoorRows
import GoSem.ClaimSeven
namespace Go.Proofs.YtjjppojiafpfcaaGreatDoor
namespace Rows

/-- THE TIED CARD OF 'emendlaw13.ScopeAlpha'. -/
def scopeAlphaCard : Claim7 := { stood := { row := scopeAlphaRow, standIns := [], harness := (true, "c58287935c55443b065ddb957e6383ccd4f9bc2a1def02c8b51310dcbd2263a3"), looks := true }, kinds := [], alts := [], laidByText := true, laidKinds := [.data, .data, .widerDeep, .widerDeep, .data, .data, .data, .data, .data, .data, .sentinel, .sentinel, .listed, .data, .pinned, .pinned, .pinned], laidTests := true, laidLooks := .later }
def ScopeAlphaCardSaid : Prop := Claim7.holds Tryz.pinned (.plain (OpenSpec.ofChange scopeAlphaSpec)) scopeAlphaCard

/-- THE SECOND FORM's CARD OF 'emendlaw13.ScopeAlpha'. -/
def scopeAlphaUptoCard : Claim7 := { stood := { row := scopeAlphaUptoRow, standIns := [], harness := (true, "c58287935c55443b065ddb957e6383ccd4f9bc2a1def02c8b51310dcbd2263a3"), looks := true }, kinds := [], alts := [], laidByText := true, laidKinds := [.data, .data, .widerDeep, .widerDeep, .data, .data, .data, .data, .data, .data, .sentinel, .sentinel, .listed, .data, .pinned, .pinned, .pinned], laidTests := true, laidLooks := .later }
def ScopeAlphaUptoCardSaid : Prop := Claim7.holds Tryz.pinned (.plain (OpenSpec.upto scopeAlphaSpec)) scopeAlphaUptoCard
end Rows
end Go.Proofs.YtjjppojiafpfcaaGreatDoor
