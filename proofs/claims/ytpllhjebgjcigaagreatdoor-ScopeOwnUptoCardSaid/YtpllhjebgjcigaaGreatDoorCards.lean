/-
  DERIVED. GIVEN WITH THE SEED: THE CARDS: each row of YtpllhjebgjcigaaGreatDoorRows.lean that lists a variable, with what it lists TIED to the program's text (the seventh form; the later family's looks); each row that meets fmt, with fmt's text TOLD by the authors' own Lean function (tested against real Go, not proved from fmt's source: count such statements apart). THE CARD IS WHAT COUNTS. Prove the row's statement (the work); the ties are given (YtpllhjebgjcigaaGreatDoorTie.lean); close each card by the builder's one call (the guide's Derived/Test/ToyasCard.lean, 'card_holds'). Laid BY PROGRAM, IN A SANDBOX (cutbox-door.mjs). By AI agents, Wed Nov 11 2026. No macro, syntax, notation, axiom, sorry.
-/
import Derived.Test.YtpllhjebgjcigaaGreatDoorRows
import GoSem.ClaimSeven
namespace Go.Proofs.YtpllhjebgjcigaaGreatDoor
namespace Rows

/-- THE TIED CARD OF 'emendlaw13.ScopeOwn'. -/
def scopeOwnCard : Claim7 := { stood := { row := scopeOwnRow, standIns := [], harness := (true, "a64048116fb412f305520ed5b9d911897063ff01e2c2ddb273f29d01890c8370"), looks := true }, kinds := [], alts := [], laidByText := true, laidKinds := [.data, .data, .widerDeep, .widerDeep, .data, .data, .data, .data, .data, .data, .sentinel, .sentinel, .listed, .data, .pinned, .pinned, .pinned], laidTests := true, laidLooks := .later }
def ScopeOwnCardSaid : Prop := Claim7.holds Tryz.pinned (.plain (OpenSpec.ofChange scopeOwnSpec)) scopeOwnCard

/-- THE SECOND FORM's CARD OF 'emendlaw13.ScopeOwn'. -/
def scopeOwnUptoCard : Claim7 := { stood := { row := scopeOwnUptoRow, standIns := [], harness := (true, "a64048116fb412f305520ed5b9d911897063ff01e2c2ddb273f29d01890c8370"), looks := true }, kinds := [], alts := [], laidByText := true, laidKinds := [.data, .data, .widerDeep, .widerDeep, .data, .data, .data, .data, .data, .data, .sentinel, .sentinel, .listed, .data, .pinned, .pinned, .pinned], laidTests := true, laidLooks := .later }
def ScopeOwnUptoCardSaid : Prop := Claim7.holds Tryz.pinned (.plain (OpenSpec.upto scopeOwnSpec)) scopeOwnUptoCard
end Rows
end Go.Proofs.YtpllhjebgjcigaaGreatDoor
