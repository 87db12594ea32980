/-
  NARROWER THAN 'FOR EVERY INPUT', by the rows' own cells (each row's printed sentence says how): TopHinted: laid · HintsFrom: laid · HintsAlong: laid.
  DERIVED. THE GIVEN ROWS OF THIS SEAT. 3 by the template 'for every input the law returns true; each argument reads behind the call as it read before'; 0 by the template 'total and deterministic' (their statements: YtlbfbdbagohinaaGreatDoorTotals.lean).
  GIVEN WITH THE SEED: the statements are not yours to turn. If you find one false, say at which input.
  Laid BY PROGRAM, IN A SANDBOX (cutbox-rows.mjs): the forced cells as the released guide's own fill.sh prints them over the translation b67c8f79660e719f… (all of the seat's roots in one cut). By AI agents, Wed Nov 11 2026. No macro, syntax, notation, axiom, sorry.
-/
import Derived.Test.YtlbfbdbagohinaaGreatDoorChecked
import GoSem.Claim
import GoSem.ClaimJoined
import GoSem.ClaimMapViews
import Derived.JoinedTies
import Derived.KernelRfl
namespace Go.Proofs.YtlbfbdbagohinaaGreatDoor
/- THE CELL 'sum', in the pinned program and in every row, IS THE sha256 OF THE DUMP (.gsa) THAT YtlbfbdbagohinaaGreatDoorProg.lean LOADS. Nothing in Lean hashes anything: it is a label: what it is worth is what the hold of that sum in a sandbox is worth. -/
noncomputable def Tryz.pinned : Pinned := { name := "ytlbfbdbagohinaagreatdoor", sum := "b67c8f79660e719f3d61c7b8a665924878f5ac539143dd668ec023e2927da62b", checked := Tryz.checked }
namespace Rows
def none {H : Type} : Left H := { results := [], args := [] }

/- WHAT THE LISTED PACKAGE-LEVEL VARIABLES READ AS WHEN THE CALL BEGINS. Each datum BY PROGRAM (the guide's laid-datum.mjs) off the statement by which the dump's own 'gosem.cut.vars' lays the variable. In a bare row this is a premise. The card (YtlbfbdbagohinaaGreatDoorCards.lean) ties it to the program's text. -/
def laid_padlock_room_reserved {H : Type} : DataW H := .slice [.lit (.string [97, 116]), .lit (.string [115, 116, 97, 116, 101, 115]), .lit (.string [115, 116, 97, 114, 116]), .lit (.string [103, 111, 110, 101]), .lit (.string [105, 102]), .lit (.string [108, 111, 99, 107]), .lit (.string [119, 105, 116, 104]), .lit (.string [115, 101, 116, 115]), .lit (.string [115, 112, 101, 110, 100, 115]), .lit (.string [98, 114, 105, 110, 103, 115])] []

/-- 'padlocktop.TopHinted': WHATEVER THE INPUT: true; the input reads as it did. -/
def topHintedSpec : ChangeSpec := { name := "topHinted", fn := fun _ => fun
  | [d1, d2, d3] => { results := [.lit (.bool true)], args := [d1, d2, d3] }
  | _ => none }
def topHintedRow : OpenClaim := { program := "ytlbfbdbagohinaagreatdoor", sum := "b67c8f79660e719f3d61c7b8a665924878f5ac539143dd668ec023e2927da62b", func := "padlock/padlocktop.TopHinted", spec := "topHinted", unfollowed := true, recurses := true, named := ["padlock/room.reserved"], apart := false, laid := [("padlock/room.reserved", laid_padlock_room_reserved)] }
def TopHintedSaid : Prop := topHintedRow.holds Tryz.pinned (OpenSpec.ofChange topHintedSpec)

/-- ITS FALSE NEIGHBOUR: 'it returns false'. Refute it at one input. -/
def topHintedWrong : ChangeSpec := { name := "topHinted", fn := fun _ => fun
  | [d1, d2, d3] => { results := [.lit (.bool false)], args := [d1, d2, d3] }
  | _ => none }
def TopHintedWrongFalsely : Prop := topHintedRow.holds Tryz.pinned (OpenSpec.ofChange topHintedWrong)

/-- 'padlocklaw07.HintsFrom': WHATEVER THE INPUT: true; the input reads as it did. -/
def hintsFromSpec : ChangeSpec := { name := "hintsFrom", fn := fun _ => fun
  | [d1, d2] => { results := [.lit (.bool true)], args := [d1, d2] }
  | _ => none }
def hintsFromRow : OpenClaim := { program := "ytlbfbdbagohinaagreatdoor", sum := "b67c8f79660e719f3d61c7b8a665924878f5ac539143dd668ec023e2927da62b", func := "padlock/padlocklaw07.HintsFrom", spec := "hintsFrom", unfollowed := true, recurses := true, named := ["padlock/room.reserved"], apart := false, laid := [("padlock/room.reserved", laid_padlock_room_reserved)] }
def HintsFromSaid : Prop := hintsFromRow.holds Tryz.pinned (OpenSpec.ofChange hintsFromSpec)

/-- ITS FALSE NEIGHBOUR: 'it returns false'. Refute it at one input. -/
def hintsFromWrong : ChangeSpec := { name := "hintsFrom", fn := fun _ => fun
  | [d1, d2] => { results := [.lit (.bool false)], args := [d1, d2] }
  | _ => none }
def HintsFromWrongFalsely : Prop := hintsFromRow.holds Tryz.pinned (OpenSpec.ofChange hintsFromWrong)

/-- 'padlocklaw07.HintsAlong': WHATEVER THE INPUT: true; the input reads as it did. -/
def hintsAlongSpec : ChangeSpec := { name := "hintsAlong", fn := fun _ => fun
  | [d1, d2, d3] => { results := [.lit (.bool true)], args := [d1, d2, d3] }
  | _ => none }
def hintsAlongRow : OpenClaim := { program := "ytlbfbdbagohinaagreatdoor", sum := "b67c8f79660e719f3d61c7b8a665924878f5ac539143dd668ec023e2927da62b", func := "padlock/padlocklaw07.HintsAlong", spec := "hintsAlong", unfollowed := true, recurses := true, named := ["padlock/room.reserved"], apart := false, laid := [("padlock/room.reserved", laid_padlock_room_reserved)] }
def HintsAlongSaid : Prop := hintsAlongRow.holds Tryz.pinned (OpenSpec.ofChange hintsAlongSpec)

/-- ITS FALSE NEIGHBOUR: 'it returns false'. Refute it at one input. -/
def hintsAlongWrong : ChangeSpec := { name := "hintsAlong", fn := fun _ => fun
  | [d1, d2, d3] => { results := [.lit (.bool false)], args := [d1, d2, d3] }
  | _ => none }
def HintsAlongWrongFalsely : Prop := hintsAlongRow.holds Tryz.pinned (OpenSpec.ofChange hintsAlongWrong)

/- THE SECOND FORM. 'bulk': how many values and letters a reading holds, each counted each time it is reached (what is shared counts as often as it is met; a slice's spare places count too). A statement '..UptoSaid' is the law's where the arguments, and the package variables that the reading takes, are together of bulk at most 1048576: NARROWER than '..Said'. Prove '..Said' where nothing that the law and all that it calls make is longer than what came in: it says more and counts as full. Else prove '..UptoSaid'. A law counts once. -/
mutual
def uptoBulk {H : Type} : DataW H → Nat
  | .lit (.string bytes) => bytes.length + 1
  | .lit _ => 1
  | .nil => 1
  | .ptr d => uptoBulk d + 1
  | .slice elems spare => uptoBulkAll elems + uptoBulkAll spare + 1
  | .agg parts => uptoBulkAll parts + 1
  | .iface _ d => uptoBulk d + 1
  | .map entries => uptoBulkEntries entries + 1
  | .held _ => 1
def uptoBulkAll {H : Type} : List (DataW H) → Nat
  | [] => 0
  | d :: r => uptoBulk d + uptoBulkAll r
def uptoBulkEntries {H : Type} : List (Lit × DataW H) → Nat
  | [] => 0
  | x :: r => uptoBulkEntry x + uptoBulkEntries r
def uptoBulkEntry {H : Type} : Lit × DataW H → Nat
  | (.string bytes, d) => bytes.length + uptoBulk d + 1
  | (_, d) => uptoBulk d + 1
 end
def uptoSmall : (H : Type) → List (DataW H) → Bool := fun _ ds => decide (uptoBulkAll ds ≤ 1048576)
def OpenSpec.upto (s : _root_.Go.ChangeSpec) : _root_.Go.OpenSpec := { _root_.Go.OpenSpec.ofChange s with cond := some uptoSmall }

/-- 'padlocktop.TopHinted', WHERE WHAT IT READS IS OF BULK AT MOST 1048576: true; the input reads as it did. -/
def topHintedUptoRow : OpenClaim := { program := "ytlbfbdbagohinaagreatdoor", sum := "b67c8f79660e719f3d61c7b8a665924878f5ac539143dd668ec023e2927da62b", func := "padlock/padlocktop.TopHinted", spec := "topHinted", unfollowed := true, recurses := true, named := ["padlock/room.reserved"], apart := false, laid := [("padlock/room.reserved", laid_padlock_room_reserved)], narrowed := true }
def TopHintedUptoSaid : Prop := topHintedUptoRow.holds Tryz.pinned (OpenSpec.upto topHintedSpec)

/-- 'padlocklaw07.HintsFrom', WHERE WHAT IT READS IS OF BULK AT MOST 1048576: true; the input reads as it did. -/
def hintsFromUptoRow : OpenClaim := { program := "ytlbfbdbagohinaagreatdoor", sum := "b67c8f79660e719f3d61c7b8a665924878f5ac539143dd668ec023e2927da62b", func := "padlock/padlocklaw07.HintsFrom", spec := "hintsFrom", unfollowed := true, recurses := true, named := ["padlock/room.reserved"], apart := false, laid := [("padlock/room.reserved", laid_padlock_room_reserved)], narrowed := true }
def HintsFromUptoSaid : Prop := hintsFromUptoRow.holds Tryz.pinned (OpenSpec.upto hintsFromSpec)

/-- 'padlocklaw07.HintsAlong', WHERE WHAT IT READS IS OF BULK AT MOST 1048576: true; the input reads as it did. -/
def hintsAlongUptoRow : OpenClaim := { program := "ytlbfbdbagohinaagreatdoor", sum := "b67c8f79660e719f3d61c7b8a665924878f5ac539143dd668ec023e2927da62b", func := "padlock/padlocklaw07.HintsAlong", spec := "hintsAlong", unfollowed := true, recurses := true, named := ["padlock/room.reserved"], apart := false, laid := [("padlock/room.reserved", laid_padlock_room_reserved)], narrowed := true }
def HintsAlongUptoSaid : Prop := hintsAlongUptoRow.holds Tryz.pinned (OpenSpec.upto hintsAlongSpec)

end Rows
end Go.Proofs.YtlbfbdbagohinaaGreatDoor
