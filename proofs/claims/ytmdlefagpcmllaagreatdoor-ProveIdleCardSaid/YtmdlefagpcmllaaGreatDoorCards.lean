/-
  DERIVED. GIVEN WITH THE SEED: THE CARDS: each row of YtmdlefagpcmllaaGreatDoorRows.lean that lists a variable, with what it lists TIED to the program's text (the seventh form; the later family's looks); each row that meets fmt, with fmt's text TOLD by the authors' own Lean function (tested against real Go, not proved from fmt's source: count such statements apart). THE CARD IS WHAT COUNTS. Prove the row's statement (the work); the ties are given (YtmdlefagpcmllaaGreatDoorTie.lean); close each card by the builder's one call (the guide's Derived/Test/ToyasCard.lean, 'card_holds'). Laid BY PROGRAM, IN A SANDBOX (cutbox-door.mjs). By AI agents, Wed Nov 11 2026. No macro, syntax, notation, axiom, sorry.
-/
import Derived.Test.YtmdlefagpcmllaaGreatDoorRows
import GoSem.ClaimSeven
namespace Go.Proofs.YtmdlefagpcmllaaGreatDoor
namespace Rows

/-- THE TIED CARD OF 'padlocklaw05.ProveEssential'. -/
def proveEssentialCard : Claim7 := { stood := { row := proveEssentialRow, standIns := [], harness := (true, "30f62f95e87f5df7550bc93bd965ece91c26b5e6b926b603002ff2b9f18f0565"), looks := false }, kinds := [], alts := [], laidByText := true, laidKinds := [.data, .data, .data, .widerDeep], laidTests := true, laidLooks := .later }
def ProveEssentialCardSaid : Prop := Claim7.holds Tryz.pinned (.plain (OpenSpec.ofChange proveEssentialSpec)) proveEssentialCard

/-- THE TIED CARD OF 'padlocklaw05.ProveAround'. -/
def proveAroundCard : Claim7 := { stood := { row := proveAroundRow, standIns := [], harness := (true, "30f62f95e87f5df7550bc93bd965ece91c26b5e6b926b603002ff2b9f18f0565"), looks := false }, kinds := [], alts := [], laidByText := true, laidKinds := [.data, .data, .data, .widerDeep], laidTests := true, laidLooks := .later }
def ProveAroundCardSaid : Prop := Claim7.holds Tryz.pinned (.plain (OpenSpec.ofChange proveAroundSpec)) proveAroundCard

/-- THE TIED CARD OF 'padlocklaw05.ProveIdle'. -/
def proveIdleCard : Claim7 := { stood := { row := proveIdleRow, standIns := [], harness := (true, "30f62f95e87f5df7550bc93bd965ece91c26b5e6b926b603002ff2b9f18f0565"), looks := false }, kinds := [], alts := [], laidByText := true, laidKinds := [.data, .data, .data, .widerDeep], laidTests := true, laidLooks := .later }
def ProveIdleCardSaid : Prop := Claim7.holds Tryz.pinned (.plain (OpenSpec.ofChange proveIdleSpec)) proveIdleCard

/-- THE TIED CARD OF 'padlocklaw05.ProveProves'. -/
def proveProvesCard : Claim7 := { stood := { row := proveProvesRow, standIns := [], harness := (true, "30f62f95e87f5df7550bc93bd965ece91c26b5e6b926b603002ff2b9f18f0565"), looks := false }, kinds := [], alts := [], laidByText := true, laidKinds := [.data, .data, .data, .widerDeep], laidTests := true, laidLooks := .later }
def ProveProvesCardSaid : Prop := Claim7.holds Tryz.pinned (.plain (OpenSpec.ofChange proveProvesSpec)) proveProvesCard

/-- THE SECOND FORM's CARD OF 'padlocklaw05.ProveEssential'. -/
def proveEssentialUptoCard : Claim7 := { stood := { row := proveEssentialUptoRow, standIns := [], harness := (true, "30f62f95e87f5df7550bc93bd965ece91c26b5e6b926b603002ff2b9f18f0565"), looks := false }, kinds := [], alts := [], laidByText := true, laidKinds := [.data, .data, .data, .widerDeep], laidTests := true, laidLooks := .later }
def ProveEssentialUptoCardSaid : Prop := Claim7.holds Tryz.pinned (.plain (OpenSpec.upto proveEssentialSpec)) proveEssentialUptoCard

/-- THE SECOND FORM's CARD OF 'padlocklaw05.ProveAround'. -/
def proveAroundUptoCard : Claim7 := { stood := { row := proveAroundUptoRow, standIns := [], harness := (true, "30f62f95e87f5df7550bc93bd965ece91c26b5e6b926b603002ff2b9f18f0565"), looks := false }, kinds := [], alts := [], laidByText := true, laidKinds := [.data, .data, .data, .widerDeep], laidTests := true, laidLooks := .later }
def ProveAroundUptoCardSaid : Prop := Claim7.holds Tryz.pinned (.plain (OpenSpec.upto proveAroundSpec)) proveAroundUptoCard

/-- THE SECOND FORM's CARD OF 'padlocklaw05.ProveIdle'. -/
def proveIdleUptoCard : Claim7 := { stood := { row := proveIdleUptoRow, standIns := [], harness := (true, "30f62f95e87f5df7550bc93bd965ece91c26b5e6b926b603002ff2b9f18f0565"), looks := false }, kinds := [], alts := [], laidByText := true, laidKinds := [.data, .data, .data, .widerDeep], laidTests := true, laidLooks := .later }
def ProveIdleUptoCardSaid : Prop := Claim7.holds Tryz.pinned (.plain (OpenSpec.upto proveIdleSpec)) proveIdleUptoCard

/-- THE SECOND FORM's CARD OF 'padlocklaw05.ProveProves'. -/
def proveProvesUptoCard : Claim7 := { stood := { row := proveProvesUptoRow, standIns := [], harness := (true, "30f62f95e87f5df7550bc93bd965ece91c26b5e6b926b603002ff2b9f18f0565"), looks := false }, kinds := [], alts := [], laidByText := true, laidKinds := [.data, .data, .data, .widerDeep], laidTests := true, laidLooks := .later }
def ProveProvesUptoCardSaid : Prop := Claim7.holds Tryz.pinned (.plain (OpenSpec.upto proveProvesSpec)) proveProvesUptoCard
end Rows
end Go.Proofs.YtmdlefagpcmllaaGreatDoor
