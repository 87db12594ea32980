/-
  DERIVED. GIVEN WITH THE SEED: THE CARDS: each row of YthpilkoeneocmaaGreatDoorRows.lean that lists a variable, with what it lists TIED to the program's text (the seventh form; the later family's looks); each row that meets fmt, with fmt's text TOLD by the authors' own Lean function (tested against real Go, not proved from fmt's source: count such statements apart). THE CARD IS WHAT COUNTS. Prove the row's statement (the work); the ties are given (YthpilkoeneocmaaGreatDoorTie.lean); close each card by the builder's one call (the guide's Derived/Test/ToyasCard.lean, 'card_holds'). Laid BY PROGRAM, IN A SANDBOX (cutbox-door.mjs). By AI agents, Wed Nov 11 2026. No macro, syntax, notation, axiom, sorry.
-/
import Derived.Test.YthpilkoeneocmaaGreatDoorRows
import GoSem.ClaimSeven
namespace Go.Proofs.YthpilkoeneocmaaGreatDoor
namespace Rows

/-- THE TIED CARD OF 'padlocktop.TopSearched'. -/
def topSearchedCard : Claim7 := { stood := { row := topSearchedRow, standIns := [], harness := (true, "8152d076c3ea7194c00137e67c2dd688629fb4516e9ac6450b02136bea45255c"), looks := false }, kinds := [], alts := [], laidByText := true, laidKinds := [.data, .data, .data, .widerDeep], laidTests := true, laidLooks := .later }
def TopSearchedCardSaid : Prop := Claim7.holds Tryz.pinned (.plain (OpenSpec.ofChange topSearchedSpec)) topSearchedCard

/-- THE SECOND FORM's CARD OF 'padlocktop.TopSearched'. -/
def topSearchedUptoCard : Claim7 := { stood := { row := topSearchedUptoRow, standIns := [], harness := (true, "8152d076c3ea7194c00137e67c2dd688629fb4516e9ac6450b02136bea45255c"), looks := false }, kinds := [], alts := [], laidByText := true, laidKinds := [.data, .data, .data, .widerDeep], laidTests := true, laidLooks := .later }
def TopSearchedUptoCardSaid : Prop := Claim7.holds Tryz.pinned (.plain (OpenSpec.upto topSearchedSpec)) topSearchedUptoCard
end Rows
end Go.Proofs.YthpilkoeneocmaaGreatDoor
