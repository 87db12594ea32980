/-
  DERIVED. GIVEN WITH THE SEED: THE CARDS: each row of YtgeehfnbhbibeaaGreatDoorRows.lean that lists a variable, with what it lists TIED to the program's text (the seventh form; the later family's looks); each row that meets fmt, with fmt's text TOLD by the authors' own Lean function (tested against real Go, not proved from fmt's source: count such statements apart). THE CARD IS WHAT COUNTS. Prove the row's statement (the work); the ties are given (YtgeehfnbhbibeaaGreatDoorTie.lean); close each card by the builder's one call (the guide's Derived/Test/ToyasCard.lean, 'card_holds'). Laid BY PROGRAM, IN A SANDBOX (cutbox-door.mjs). By AI agents, Wed Nov 11 2026. No macro, syntax, notation, axiom, sorry.
-/
import Derived.Test.YtgeehfnbhbibeaaGreatDoorRows
import GoSem.ClaimSeven
namespace Go.Proofs.YtgeehfnbhbibeaaGreatDoor
namespace Rows

/-- THE TIED CARD OF 'padlocklaw05.ProveSolves'. -/
def proveSolvesCard : Claim7 := { stood := { row := proveSolvesRow, standIns := [], harness := (true, "c63758b0032930f8d82eae7ac0be4ba8ebf1759d9a35e8c9fafd2972a4b6b6e3"), looks := false }, kinds := [], alts := [], laidByText := true, laidKinds := [.data, .data, .data, .widerDeep], laidTests := true, laidLooks := .later }
def ProveSolvesCardSaid : Prop := Claim7.holds Tryz.pinned (.plain (OpenSpec.ofChange proveSolvesSpec)) proveSolvesCard

/-- THE TIED CARD OF 'padlocklaw05.ProveRounds'. -/
def proveRoundsCard : Claim7 := { stood := { row := proveRoundsRow, standIns := [], harness := (true, "c63758b0032930f8d82eae7ac0be4ba8ebf1759d9a35e8c9fafd2972a4b6b6e3"), looks := false }, kinds := [], alts := [], laidByText := true, laidKinds := [.data, .data, .data, .widerDeep], laidTests := true, laidLooks := .later }
def ProveRoundsCardSaid : Prop := Claim7.holds Tryz.pinned (.plain (OpenSpec.ofChange proveRoundsSpec)) proveRoundsCard

/-- THE TIED CARD OF 'padlocklaw05.ProveBefore'. -/
def proveBeforeCard : Claim7 := { stood := { row := proveBeforeRow, standIns := [], harness := (true, "c63758b0032930f8d82eae7ac0be4ba8ebf1759d9a35e8c9fafd2972a4b6b6e3"), looks := false }, kinds := [], alts := [], laidByText := true, laidKinds := [.data, .data, .data, .widerDeep], laidTests := true, laidLooks := .later }
def ProveBeforeCardSaid : Prop := Claim7.holds Tryz.pinned (.plain (OpenSpec.ofChange proveBeforeSpec)) proveBeforeCard

/-- THE TIED CARD OF 'padlocklaw06.SearchGames'. -/
def searchGamesCard : Claim7 := { stood := { row := searchGamesRow, standIns := [], harness := (true, "c63758b0032930f8d82eae7ac0be4ba8ebf1759d9a35e8c9fafd2972a4b6b6e3"), looks := false }, kinds := [], alts := [], laidByText := true, laidKinds := [.data, .data, .data, .widerDeep], laidTests := true, laidLooks := .later }
def SearchGamesCardSaid : Prop := Claim7.holds Tryz.pinned (.plain (OpenSpec.ofChange searchGamesSpec)) searchGamesCard

/-- THE SECOND FORM's CARD OF 'padlocklaw05.ProveSolves'. -/
def proveSolvesUptoCard : Claim7 := { stood := { row := proveSolvesUptoRow, standIns := [], harness := (true, "c63758b0032930f8d82eae7ac0be4ba8ebf1759d9a35e8c9fafd2972a4b6b6e3"), looks := false }, kinds := [], alts := [], laidByText := true, laidKinds := [.data, .data, .data, .widerDeep], laidTests := true, laidLooks := .later }
def ProveSolvesUptoCardSaid : Prop := Claim7.holds Tryz.pinned (.plain (OpenSpec.upto proveSolvesSpec)) proveSolvesUptoCard

/-- THE SECOND FORM's CARD OF 'padlocklaw05.ProveRounds'. -/
def proveRoundsUptoCard : Claim7 := { stood := { row := proveRoundsUptoRow, standIns := [], harness := (true, "c63758b0032930f8d82eae7ac0be4ba8ebf1759d9a35e8c9fafd2972a4b6b6e3"), looks := false }, kinds := [], alts := [], laidByText := true, laidKinds := [.data, .data, .data, .widerDeep], laidTests := true, laidLooks := .later }
def ProveRoundsUptoCardSaid : Prop := Claim7.holds Tryz.pinned (.plain (OpenSpec.upto proveRoundsSpec)) proveRoundsUptoCard

/-- THE SECOND FORM's CARD OF 'padlocklaw05.ProveBefore'. -/
def proveBeforeUptoCard : Claim7 := { stood := { row := proveBeforeUptoRow, standIns := [], harness := (true, "c63758b0032930f8d82eae7ac0be4ba8ebf1759d9a35e8c9fafd2972a4b6b6e3"), looks := false }, kinds := [], alts := [], laidByText := true, laidKinds := [.data, .data, .data, .widerDeep], laidTests := true, laidLooks := .later }
def ProveBeforeUptoCardSaid : Prop := Claim7.holds Tryz.pinned (.plain (OpenSpec.upto proveBeforeSpec)) proveBeforeUptoCard

/-- THE SECOND FORM's CARD OF 'padlocklaw06.SearchGames'. -/
def searchGamesUptoCard : Claim7 := { stood := { row := searchGamesUptoRow, standIns := [], harness := (true, "c63758b0032930f8d82eae7ac0be4ba8ebf1759d9a35e8c9fafd2972a4b6b6e3"), looks := false }, kinds := [], alts := [], laidByText := true, laidKinds := [.data, .data, .data, .widerDeep], laidTests := true, laidLooks := .later }
def SearchGamesUptoCardSaid : Prop := Claim7.holds Tryz.pinned (.plain (OpenSpec.upto searchGamesSpec)) searchGamesUptoCard
end Rows
end Go.Proofs.YtgeehfnbhbibeaaGreatDoor
