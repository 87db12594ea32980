/-
  DERIVED. GIVEN WITH THE SEED: THE CARDS: each row of YtdibamopklkilaaGreatDoorRows.lean that lists a variable, with what it lists TIED to the program's text (the seventh form; the later family's looks); each row that meets fmt, with fmt's text TOLD by the authors' own Lean function (tested against real Go, not proved from fmt's source: count such statements apart). THE CARD IS WHAT COUNTS. Prove the row's statement (the work); the ties are given (YtdibamopklkilaaGreatDoorTie.lean); close each card by the builder's one call (the guide's Derived/Test/ToyasCard.lean, 'card_holds'). Laid BY PROGRAM, IN A SANDBOX (cutbox-door.mjs). By AI agents, Wed Nov 11 2026. No macro, syntax, notation, axiom, sorry.
-/
import Derived.Test.YtdibamopklkilaaGreatDoorRows
import GoSem.ClaimSeven
namespace Go.Proofs.YtdibamopklkilaaGreatDoor
namespace Rows

/-- THE TIED CARD OF 'padlocklaw05.ProveDies'. -/
def proveDiesCard : Claim7 := { stood := { row := proveDiesRow, standIns := [], harness := (true, "5deffb456ed9f3069d8b43ba6ebe0ae55bdeb49da70a1df43d77c304f8d8d23c"), looks := false }, kinds := [], alts := [], laidByText := true, laidKinds := [.data, .data, .data, .widerDeep], laidTests := true, laidLooks := .later }
def ProveDiesCardSaid : Prop := Claim7.holds Tryz.pinned (.plain (OpenSpec.ofChange proveDiesSpec)) proveDiesCard

/-- THE TIED CARD OF 'padlocklaw05.ProveShortest'. -/
def proveShortestCard : Claim7 := { stood := { row := proveShortestRow, standIns := [], harness := (true, "5deffb456ed9f3069d8b43ba6ebe0ae55bdeb49da70a1df43d77c304f8d8d23c"), looks := false }, kinds := [], alts := [], laidByText := true, laidKinds := [.data, .data, .data, .widerDeep], laidTests := true, laidLooks := .later }
def ProveShortestCardSaid : Prop := Claim7.holds Tryz.pinned (.plain (OpenSpec.ofChange proveShortestSpec)) proveShortestCard

/-- THE TIED CARD OF 'padlocklaw05.ProveTries'. -/
def proveTriesCard : Claim7 := { stood := { row := proveTriesRow, standIns := [], harness := (true, "5deffb456ed9f3069d8b43ba6ebe0ae55bdeb49da70a1df43d77c304f8d8d23c"), looks := false }, kinds := [], alts := [], laidByText := true, laidKinds := [.data, .data, .data, .widerDeep], laidTests := true, laidLooks := .later }
def ProveTriesCardSaid : Prop := Claim7.holds Tryz.pinned (.plain (OpenSpec.ofChange proveTriesSpec)) proveTriesCard

/-- THE TIED CARD OF 'padlocklaw05.ProveFinishes'. -/
def proveFinishesCard : Claim7 := { stood := { row := proveFinishesRow, standIns := [], harness := (true, "5deffb456ed9f3069d8b43ba6ebe0ae55bdeb49da70a1df43d77c304f8d8d23c"), looks := false }, kinds := [], alts := [], laidByText := true, laidKinds := [.data, .data, .data, .widerDeep], laidTests := true, laidLooks := .later }
def ProveFinishesCardSaid : Prop := Claim7.holds Tryz.pinned (.plain (OpenSpec.ofChange proveFinishesSpec)) proveFinishesCard

/-- THE SECOND FORM's CARD OF 'padlocklaw05.ProveDies'. -/
def proveDiesUptoCard : Claim7 := { stood := { row := proveDiesUptoRow, standIns := [], harness := (true, "5deffb456ed9f3069d8b43ba6ebe0ae55bdeb49da70a1df43d77c304f8d8d23c"), looks := false }, kinds := [], alts := [], laidByText := true, laidKinds := [.data, .data, .data, .widerDeep], laidTests := true, laidLooks := .later }
def ProveDiesUptoCardSaid : Prop := Claim7.holds Tryz.pinned (.plain (OpenSpec.upto proveDiesSpec)) proveDiesUptoCard

/-- THE SECOND FORM's CARD OF 'padlocklaw05.ProveShortest'. -/
def proveShortestUptoCard : Claim7 := { stood := { row := proveShortestUptoRow, standIns := [], harness := (true, "5deffb456ed9f3069d8b43ba6ebe0ae55bdeb49da70a1df43d77c304f8d8d23c"), looks := false }, kinds := [], alts := [], laidByText := true, laidKinds := [.data, .data, .data, .widerDeep], laidTests := true, laidLooks := .later }
def ProveShortestUptoCardSaid : Prop := Claim7.holds Tryz.pinned (.plain (OpenSpec.upto proveShortestSpec)) proveShortestUptoCard

/-- THE SECOND FORM's CARD OF 'padlocklaw05.ProveTries'. -/
def proveTriesUptoCard : Claim7 := { stood := { row := proveTriesUptoRow, standIns := [], harness := (true, "5deffb456ed9f3069d8b43ba6ebe0ae55bdeb49da70a1df43d77c304f8d8d23c"), looks := false }, kinds := [], alts := [], laidByText := true, laidKinds := [.data, .data, .data, .widerDeep], laidTests := true, laidLooks := .later }
def ProveTriesUptoCardSaid : Prop := Claim7.holds Tryz.pinned (.plain (OpenSpec.upto proveTriesSpec)) proveTriesUptoCard

/-- THE SECOND FORM's CARD OF 'padlocklaw05.ProveFinishes'. -/
def proveFinishesUptoCard : Claim7 := { stood := { row := proveFinishesUptoRow, standIns := [], harness := (true, "5deffb456ed9f3069d8b43ba6ebe0ae55bdeb49da70a1df43d77c304f8d8d23c"), looks := false }, kinds := [], alts := [], laidByText := true, laidKinds := [.data, .data, .data, .widerDeep], laidTests := true, laidLooks := .later }
def ProveFinishesUptoCardSaid : Prop := Claim7.holds Tryz.pinned (.plain (OpenSpec.upto proveFinishesSpec)) proveFinishesUptoCard
end Rows
end Go.Proofs.YtdibamopklkilaaGreatDoor
