/-
  DERIVED. GIVEN WITH THE SEED: THE CARDS: each row of YtfcgcpjnpdkjmaaGreatDoorRows.lean that lists a variable, with what it lists TIED to the program's text (the seventh form; the later family's looks); each row that meets fmt, with fmt's text TOLD by the authors' own Lean function (tested against real Go, not proved from fmt's source: count such statements apart). THE CARD IS WHAT COUNTS. Prove the row's statement (the work); the ties are given (YtfcgcpjnpdkjmaaGreatDoorTie.lean); close each card by the builder's one call (the guide's Derived/Test/ToyasCard.lean, 'card_holds'). Laid BY PROGRAM, IN A SANDBOX (cutbox-door.mjs). By AI agents, Wed Nov 11 2026. No macro, syntax, notation, axiom, sorry.
-/
import Derived.Test.YtfcgcpjnpdkjmaaGreatDoorRows
import GoSem.ClaimSeven
namespace Go.Proofs.YtfcgcpjnpdkjmaaGreatDoor
namespace Rows

/-- THE TIED CARD OF 'padlocktop.TopDoors'. -/
def topDoorsCard : Claim7 := { stood := { row := topDoorsRow, standIns := [], harness := (true, "101f9972b61b22de00ea20f34e2f6bb1f747c01e666c829b2eaae5183ee60b91"), looks := false }, kinds := [], alts := [], laidByText := true, laidKinds := [.widerDeep], laidTests := true, laidLooks := .later }
def TopDoorsCardSaid : Prop := Claim7.holds Tryz.pinned (.plain (OpenSpec.ofChange topDoorsSpec)) topDoorsCard

/-- THE TIED CARD OF 'padlocklaw07.HintsFrom'. -/
def hintsFromCard : Claim7 := { stood := { row := hintsFromRow, standIns := [], harness := (true, "101f9972b61b22de00ea20f34e2f6bb1f747c01e666c829b2eaae5183ee60b91"), looks := false }, kinds := [], alts := [], laidByText := true, laidKinds := [.widerDeep], laidTests := true, laidLooks := .later }
def HintsFromCardSaid : Prop := Claim7.holds Tryz.pinned (.plain (OpenSpec.ofChange hintsFromSpec)) hintsFromCard

/-- THE TIED CARD OF 'padlocklaw05.ProveExplores'. -/
def proveExploresCard : Claim7 := { stood := { row := proveExploresRow, standIns := [], harness := (true, "101f9972b61b22de00ea20f34e2f6bb1f747c01e666c829b2eaae5183ee60b91"), looks := false }, kinds := [], alts := [], laidByText := true, laidKinds := [.data, .data, .data, .widerDeep], laidTests := true, laidLooks := .later }
def ProveExploresCardSaid : Prop := Claim7.holds Tryz.pinned (.plain (OpenSpec.ofChange proveExploresSpec)) proveExploresCard

/-- THE SECOND FORM's CARD OF 'padlocktop.TopDoors'. -/
def topDoorsUptoCard : Claim7 := { stood := { row := topDoorsUptoRow, standIns := [], harness := (true, "101f9972b61b22de00ea20f34e2f6bb1f747c01e666c829b2eaae5183ee60b91"), looks := false }, kinds := [], alts := [], laidByText := true, laidKinds := [.widerDeep], laidTests := true, laidLooks := .later }
def TopDoorsUptoCardSaid : Prop := Claim7.holds Tryz.pinned (.plain (OpenSpec.upto topDoorsSpec)) topDoorsUptoCard

/-- THE SECOND FORM's CARD OF 'padlocklaw07.HintsFrom'. -/
def hintsFromUptoCard : Claim7 := { stood := { row := hintsFromUptoRow, standIns := [], harness := (true, "101f9972b61b22de00ea20f34e2f6bb1f747c01e666c829b2eaae5183ee60b91"), looks := false }, kinds := [], alts := [], laidByText := true, laidKinds := [.widerDeep], laidTests := true, laidLooks := .later }
def HintsFromUptoCardSaid : Prop := Claim7.holds Tryz.pinned (.plain (OpenSpec.upto hintsFromSpec)) hintsFromUptoCard

/-- THE SECOND FORM's CARD OF 'padlocklaw05.ProveExplores'. -/
def proveExploresUptoCard : Claim7 := { stood := { row := proveExploresUptoRow, standIns := [], harness := (true, "101f9972b61b22de00ea20f34e2f6bb1f747c01e666c829b2eaae5183ee60b91"), looks := false }, kinds := [], alts := [], laidByText := true, laidKinds := [.data, .data, .data, .widerDeep], laidTests := true, laidLooks := .later }
def ProveExploresUptoCardSaid : Prop := Claim7.holds Tryz.pinned (.plain (OpenSpec.upto proveExploresSpec)) proveExploresUptoCard
end Rows
end Go.Proofs.YtfcgcpjnpdkjmaaGreatDoor
