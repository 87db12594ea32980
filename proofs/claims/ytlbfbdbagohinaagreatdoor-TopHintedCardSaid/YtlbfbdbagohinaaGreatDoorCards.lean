/-
  DERIVED. GIVEN WITH THE SEED: THE CARDS: each row of YtlbfbdbagohinaaGreatDoorRows.lean that lists a variable, with what it lists TIED to the program's text (the seventh form; the later family's looks); each row that meets fmt, with fmt's text TOLD by the authors' own Lean function (tested against real Go, not proved from fmt's source: count such statements apart). THE CARD IS WHAT COUNTS. Prove the row's statement (the work); the ties are given (YtlbfbdbagohinaaGreatDoorTie.lean); close each card by the builder's one call (the guide's Derived/Test/ToyasCard.lean, 'card_holds'). Laid BY PROGRAM, IN A SANDBOX (cutbox-door.mjs). By AI agents, Wed Nov 11 2026. No macro, syntax, notation, axiom, sorry.
-/
import Derived.Test.YtlbfbdbagohinaaGreatDoorRows
import GoSem.ClaimSeven
namespace Go.Proofs.YtlbfbdbagohinaaGreatDoor
namespace Rows

/-- THE TIED CARD OF 'padlocktop.TopHinted'. -/
def topHintedCard : Claim7 := { stood := { row := topHintedRow, standIns := [], harness := (true, "6f800565475d9f3daeabd539c9cd1ddbcb2348db20d7bfa6bbe6d18829542139"), looks := false }, kinds := [], alts := [], laidByText := true, laidKinds := [.widerDeep], laidTests := true, laidLooks := .later }
def TopHintedCardSaid : Prop := Claim7.holds Tryz.pinned (.plain (OpenSpec.ofChange topHintedSpec)) topHintedCard

/-- THE TIED CARD OF 'padlocklaw07.HintsFrom'. -/
def hintsFromCard : Claim7 := { stood := { row := hintsFromRow, standIns := [], harness := (true, "6f800565475d9f3daeabd539c9cd1ddbcb2348db20d7bfa6bbe6d18829542139"), looks := false }, kinds := [], alts := [], laidByText := true, laidKinds := [.widerDeep], laidTests := true, laidLooks := .later }
def HintsFromCardSaid : Prop := Claim7.holds Tryz.pinned (.plain (OpenSpec.ofChange hintsFromSpec)) hintsFromCard

/-- THE TIED CARD OF 'padlocklaw07.HintsAlong'. -/
def hintsAlongCard : Claim7 := { stood := { row := hintsAlongRow, standIns := [], harness := (true, "6f800565475d9f3daeabd539c9cd1ddbcb2348db20d7bfa6bbe6d18829542139"), looks := false }, kinds := [], alts := [], laidByText := true, laidKinds := [.widerDeep], laidTests := true, laidLooks := .later }
def HintsAlongCardSaid : Prop := Claim7.holds Tryz.pinned (.plain (OpenSpec.ofChange hintsAlongSpec)) hintsAlongCard

/-- THE SECOND FORM's CARD OF 'padlocktop.TopHinted'. -/
def topHintedUptoCard : Claim7 := { stood := { row := topHintedUptoRow, standIns := [], harness := (true, "6f800565475d9f3daeabd539c9cd1ddbcb2348db20d7bfa6bbe6d18829542139"), looks := false }, kinds := [], alts := [], laidByText := true, laidKinds := [.widerDeep], laidTests := true, laidLooks := .later }
def TopHintedUptoCardSaid : Prop := Claim7.holds Tryz.pinned (.plain (OpenSpec.upto topHintedSpec)) topHintedUptoCard

/-- THE SECOND FORM's CARD OF 'padlocklaw07.HintsFrom'. -/
def hintsFromUptoCard : Claim7 := { stood := { row := hintsFromUptoRow, standIns := [], harness := (true, "6f800565475d9f3daeabd539c9cd1ddbcb2348db20d7bfa6bbe6d18829542139"), looks := false }, kinds := [], alts := [], laidByText := true, laidKinds := [.widerDeep], laidTests := true, laidLooks := .later }
def HintsFromUptoCardSaid : Prop := Claim7.holds Tryz.pinned (.plain (OpenSpec.upto hintsFromSpec)) hintsFromUptoCard

/-- THE SECOND FORM's CARD OF 'padlocklaw07.HintsAlong'. -/
def hintsAlongUptoCard : Claim7 := { stood := { row := hintsAlongUptoRow, standIns := [], harness := (true, "6f800565475d9f3daeabd539c9cd1ddbcb2348db20d7bfa6bbe6d18829542139"), looks := false }, kinds := [], alts := [], laidByText := true, laidKinds := [.widerDeep], laidTests := true, laidLooks := .later }
def HintsAlongUptoCardSaid : Prop := Claim7.holds Tryz.pinned (.plain (OpenSpec.upto hintsAlongSpec)) hintsAlongUptoCard
end Rows
end Go.Proofs.YtlbfbdbagohinaaGreatDoor
