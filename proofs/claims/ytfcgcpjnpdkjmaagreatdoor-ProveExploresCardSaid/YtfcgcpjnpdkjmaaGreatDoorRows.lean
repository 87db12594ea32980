/-
  NARROWER THAN 'FOR EVERY INPUT', by the rows' own cells (each row's printed sentence says how): TopDoors: laid · HintsFrom: laid · ProveExplores: laid.
  DERIVED. THE GIVEN ROWS OF THIS SEAT. 3 by the template 'for every input the law returns true; each argument reads behind the call as it read before'; 0 by the template 'total and deterministic' (their statements: YtfcgcpjnpdkjmaaGreatDoorTotals.lean).
  GIVEN WITH THE SEED: the statements are not yours to turn. If you find one false, say at which input.
  Laid BY PROGRAM, IN A SANDBOX (cutbox-rows.mjs): the forced cells as the released guide's own fill.sh prints them over the translation c7f85bacc3deb74d… (all of the seat's roots in one cut). By AI agents, Wed Nov 11 2026. No macro, syntax, notation, axiom, sorry.
-/
import Derived.Test.YtfcgcpjnpdkjmaaGreatDoorChecked
import GoSem.Claim
import GoSem.ClaimJoined
import GoSem.ClaimMapViews
import Derived.JoinedTies
import Derived.KernelRfl
namespace Go.Proofs.YtfcgcpjnpdkjmaaGreatDoor
/- THE CELL 'sum', in the pinned program and in every row, IS THE sha256 OF THE DUMP (.gsa) THAT YtfcgcpjnpdkjmaaGreatDoorProg.lean LOADS. Nothing in Lean hashes anything: it is a label: what it is worth is what the hold of that sum in a sandbox is worth. -/
noncomputable def Tryz.pinned : Pinned := { name := "ytfcgcpjnpdkjmaagreatdoor", sum := "c7f85bacc3deb74d4d0d9c847c84751a44f8aefda2376e2c1796b106d4bcb835", checked := Tryz.checked }
namespace Rows
def none {H : Type} : Left H := { results := [], args := [] }

/- WHAT THE LISTED PACKAGE-LEVEL VARIABLES READ AS WHEN THE CALL BEGINS. Each datum BY PROGRAM (the guide's laid-datum.mjs) off the statement by which the dump's own 'gosem.cut.vars' lays the variable. In a bare row this is a premise. The card (YtfcgcpjnpdkjmaaGreatDoorCards.lean) ties it to the program's text. -/
def laid_padlock_room_reserved {H : Type} : DataW H := .slice [.lit (.string [97, 116]), .lit (.string [115, 116, 97, 116, 101, 115]), .lit (.string [115, 116, 97, 114, 116]), .lit (.string [103, 111, 110, 101]), .lit (.string [105, 102]), .lit (.string [108, 111, 99, 107]), .lit (.string [119, 105, 116, 104]), .lit (.string [115, 101, 116, 115]), .lit (.string [115, 112, 101, 110, 100, 115]), .lit (.string [98, 114, 105, 110, 103, 115])] []
def laid_math_bits_deBruijn32tab {H : Type} : DataW H := .agg [.lit (.int .u8 0), .lit (.int .u8 1), .lit (.int .u8 28), .lit (.int .u8 2), .lit (.int .u8 29), .lit (.int .u8 14), .lit (.int .u8 24), .lit (.int .u8 3), .lit (.int .u8 30), .lit (.int .u8 22), .lit (.int .u8 20), .lit (.int .u8 15), .lit (.int .u8 25), .lit (.int .u8 17), .lit (.int .u8 4), .lit (.int .u8 8), .lit (.int .u8 31), .lit (.int .u8 27), .lit (.int .u8 13), .lit (.int .u8 23), .lit (.int .u8 21), .lit (.int .u8 19), .lit (.int .u8 16), .lit (.int .u8 7), .lit (.int .u8 26), .lit (.int .u8 12), .lit (.int .u8 18), .lit (.int .u8 6), .lit (.int .u8 11), .lit (.int .u8 5), .lit (.int .u8 10), .lit (.int .u8 9)]
def laid_math_bits_deBruijn64tab {H : Type} : DataW H := .agg [.lit (.int .u8 0), .lit (.int .u8 1), .lit (.int .u8 56), .lit (.int .u8 2), .lit (.int .u8 57), .lit (.int .u8 49), .lit (.int .u8 28), .lit (.int .u8 3), .lit (.int .u8 61), .lit (.int .u8 58), .lit (.int .u8 42), .lit (.int .u8 50), .lit (.int .u8 38), .lit (.int .u8 29), .lit (.int .u8 17), .lit (.int .u8 4), .lit (.int .u8 62), .lit (.int .u8 47), .lit (.int .u8 59), .lit (.int .u8 36), .lit (.int .u8 45), .lit (.int .u8 43), .lit (.int .u8 51), .lit (.int .u8 22), .lit (.int .u8 53), .lit (.int .u8 39), .lit (.int .u8 33), .lit (.int .u8 30), .lit (.int .u8 24), .lit (.int .u8 18), .lit (.int .u8 12), .lit (.int .u8 5), .lit (.int .u8 63), .lit (.int .u8 55), .lit (.int .u8 48), .lit (.int .u8 27), .lit (.int .u8 60), .lit (.int .u8 41), .lit (.int .u8 37), .lit (.int .u8 16), .lit (.int .u8 46), .lit (.int .u8 35), .lit (.int .u8 44), .lit (.int .u8 21), .lit (.int .u8 52), .lit (.int .u8 32), .lit (.int .u8 23), .lit (.int .u8 11), .lit (.int .u8 54), .lit (.int .u8 26), .lit (.int .u8 40), .lit (.int .u8 15), .lit (.int .u8 34), .lit (.int .u8 20), .lit (.int .u8 31), .lit (.int .u8 10), .lit (.int .u8 25), .lit (.int .u8 14), .lit (.int .u8 19), .lit (.int .u8 9), .lit (.int .u8 13), .lit (.int .u8 8), .lit (.int .u8 7), .lit (.int .u8 6)]
def laid_internal_strconv_uint64pow10 {H : Type} : DataW H := .agg [.lit (.int .u64 1), .lit (.int .u64 10), .lit (.int .u64 100), .lit (.int .u64 1000), .lit (.int .u64 10000), .lit (.int .u64 100000), .lit (.int .u64 1000000), .lit (.int .u64 10000000), .lit (.int .u64 100000000), .lit (.int .u64 1000000000), .lit (.int .u64 10000000000), .lit (.int .u64 100000000000), .lit (.int .u64 1000000000000), .lit (.int .u64 10000000000000), .lit (.int .u64 100000000000000), .lit (.int .u64 1000000000000000), .lit (.int .u64 10000000000000000), .lit (.int .u64 100000000000000000), .lit (.int .u64 1000000000000000000), .lit (.int .u64 10000000000000000000)]

/-- 'padlocktop.TopDoors': WHATEVER THE INPUT: true; the input reads as it did. -/
def topDoorsSpec : ChangeSpec := { name := "topDoors", fn := fun _ => fun
  | [d1, d2, d3] => { results := [.lit (.bool true)], args := [d1, d2, d3] }
  | _ => none }
def topDoorsRow : OpenClaim := { program := "ytfcgcpjnpdkjmaagreatdoor", sum := "c7f85bacc3deb74d4d0d9c847c84751a44f8aefda2376e2c1796b106d4bcb835", func := "padlock/padlocktop.TopDoors", spec := "topDoors", unfollowed := true, recurses := true, named := ["padlock/room.reserved"], apart := false, laid := [("padlock/room.reserved", laid_padlock_room_reserved)] }
def TopDoorsSaid : Prop := topDoorsRow.holds Tryz.pinned (OpenSpec.ofChange topDoorsSpec)

/-- ITS FALSE NEIGHBOUR: 'it returns false'. Refute it at one input. -/
def topDoorsWrong : ChangeSpec := { name := "topDoors", fn := fun _ => fun
  | [d1, d2, d3] => { results := [.lit (.bool false)], args := [d1, d2, d3] }
  | _ => none }
def TopDoorsWrongFalsely : Prop := topDoorsRow.holds Tryz.pinned (OpenSpec.ofChange topDoorsWrong)

/-- 'padlocklaw07.HintsFrom': WHATEVER THE INPUT: true; the input reads as it did. -/
def hintsFromSpec : ChangeSpec := { name := "hintsFrom", fn := fun _ => fun
  | [d1, d2] => { results := [.lit (.bool true)], args := [d1, d2] }
  | _ => none }
def hintsFromRow : OpenClaim := { program := "ytfcgcpjnpdkjmaagreatdoor", sum := "c7f85bacc3deb74d4d0d9c847c84751a44f8aefda2376e2c1796b106d4bcb835", func := "padlock/padlocklaw07.HintsFrom", spec := "hintsFrom", unfollowed := true, recurses := true, named := ["padlock/room.reserved"], apart := false, laid := [("padlock/room.reserved", laid_padlock_room_reserved)] }
def HintsFromSaid : Prop := hintsFromRow.holds Tryz.pinned (OpenSpec.ofChange hintsFromSpec)

/-- ITS FALSE NEIGHBOUR: 'it returns false'. Refute it at one input. -/
def hintsFromWrong : ChangeSpec := { name := "hintsFrom", fn := fun _ => fun
  | [d1, d2] => { results := [.lit (.bool false)], args := [d1, d2] }
  | _ => none }
def HintsFromWrongFalsely : Prop := hintsFromRow.holds Tryz.pinned (OpenSpec.ofChange hintsFromWrong)

/-- 'padlocklaw05.ProveExplores': WHATEVER THE INPUT: true; the input reads as it did. -/
def proveExploresSpec : ChangeSpec := { name := "proveExplores", fn := fun _ => fun
  | [d] => { results := [.lit (.bool true)], args := [d] }
  | _ => none }
def proveExploresRow : OpenClaim := { program := "ytfcgcpjnpdkjmaagreatdoor", sum := "c7f85bacc3deb74d4d0d9c847c84751a44f8aefda2376e2c1796b106d4bcb835", func := "padlock/padlocklaw05.ProveExplores", spec := "proveExplores", inPlace := ["internal/abi.NoEscape"], unfollowed := true, recurses := true, named := ["padlock/room.reserved", "internal/strconv.uint64pow10", "math/bits.deBruijn32tab", "math/bits.deBruijn64tab"], apart := false, laid := [("math/bits.deBruijn32tab", laid_math_bits_deBruijn32tab), ("math/bits.deBruijn64tab", laid_math_bits_deBruijn64tab), ("internal/strconv.uint64pow10", laid_internal_strconv_uint64pow10), ("padlock/room.reserved", laid_padlock_room_reserved)] }
def ProveExploresSaid : Prop := proveExploresRow.holds Tryz.pinned (OpenSpec.ofChange proveExploresSpec)

/-- ITS FALSE NEIGHBOUR: 'it returns false'. Refute it at one input. -/
def proveExploresWrong : ChangeSpec := { name := "proveExplores", fn := fun _ => fun
  | [d] => { results := [.lit (.bool false)], args := [d] }
  | _ => none }
def ProveExploresWrongFalsely : Prop := proveExploresRow.holds Tryz.pinned (OpenSpec.ofChange proveExploresWrong)

/- THE SECOND FORM. 'bulk': how many values and letters a reading holds, each counted each time it is reached (what is shared counts as often as it is met; a slice's spare places count too). A statement '..UptoSaid' is the law's where the arguments, and the package variables that the reading takes, are together of bulk at most 1048576: NARROWER than '..Said'. Prove '..Said' where nothing that the law and all that it calls make is longer than what came in: it says more and counts as full. Else prove '..UptoSaid'. A law counts once. -/
mutual
def uptoBulk {H : Type} : DataW H → Nat
  | .lit (.string bytes) => bytes.length + 1
  | .lit _ => 1
  | .nil => 1
  | .ptr d => uptoBulk d + 1
  | .slice elems spare => uptoBulkAll elems + uptoBulkAll spare + 1
  | .agg parts => uptoBulkAll parts + 1
  | .iface _ d => uptoBulk d + 1
  | .map entries => uptoBulkEntries entries + 1
  | .held _ => 1
def uptoBulkAll {H : Type} : List (DataW H) → Nat
  | [] => 0
  | d :: r => uptoBulk d + uptoBulkAll r
def uptoBulkEntries {H : Type} : List (Lit × DataW H) → Nat
  | [] => 0
  | x :: r => uptoBulkEntry x + uptoBulkEntries r
def uptoBulkEntry {H : Type} : Lit × DataW H → Nat
  | (.string bytes, d) => bytes.length + uptoBulk d + 1
  | (_, d) => uptoBulk d + 1
 end
def uptoSmall : (H : Type) → List (DataW H) → Bool := fun _ ds => decide (uptoBulkAll ds ≤ 1048576)
def OpenSpec.upto (s : _root_.Go.ChangeSpec) : _root_.Go.OpenSpec := { _root_.Go.OpenSpec.ofChange s with cond := some uptoSmall }

/-- 'padlocktop.TopDoors', WHERE WHAT IT READS IS OF BULK AT MOST 1048576: true; the input reads as it did. -/
def topDoorsUptoRow : OpenClaim := { program := "ytfcgcpjnpdkjmaagreatdoor", sum := "c7f85bacc3deb74d4d0d9c847c84751a44f8aefda2376e2c1796b106d4bcb835", func := "padlock/padlocktop.TopDoors", spec := "topDoors", unfollowed := true, recurses := true, named := ["padlock/room.reserved"], apart := false, laid := [("padlock/room.reserved", laid_padlock_room_reserved)], narrowed := true }
def TopDoorsUptoSaid : Prop := topDoorsUptoRow.holds Tryz.pinned (OpenSpec.upto topDoorsSpec)

/-- 'padlocklaw07.HintsFrom', WHERE WHAT IT READS IS OF BULK AT MOST 1048576: true; the input reads as it did. -/
def hintsFromUptoRow : OpenClaim := { program := "ytfcgcpjnpdkjmaagreatdoor", sum := "c7f85bacc3deb74d4d0d9c847c84751a44f8aefda2376e2c1796b106d4bcb835", func := "padlock/padlocklaw07.HintsFrom", spec := "hintsFrom", unfollowed := true, recurses := true, named := ["padlock/room.reserved"], apart := false, laid := [("padlock/room.reserved", laid_padlock_room_reserved)], narrowed := true }
def HintsFromUptoSaid : Prop := hintsFromUptoRow.holds Tryz.pinned (OpenSpec.upto hintsFromSpec)

/-- 'padlocklaw05.ProveExplores', WHERE WHAT IT READS IS OF BULK AT MOST 1048576: true; the input reads as it did. -/
def proveExploresUptoRow : OpenClaim := { program := "ytfcgcpjnpdkjmaagreatdoor", sum := "c7f85bacc3deb74d4d0d9c847c84751a44f8aefda2376e2c1796b106d4bcb835", func := "padlock/padlocklaw05.ProveExplores", spec := "proveExplores", inPlace := ["internal/abi.NoEscape"], unfollowed := true, recurses := true, named := ["padlock/room.reserved", "internal/strconv.uint64pow10", "math/bits.deBruijn32tab", "math/bits.deBruijn64tab"], apart := false, laid := [("math/bits.deBruijn32tab", laid_math_bits_deBruijn32tab), ("math/bits.deBruijn64tab", laid_math_bits_deBruijn64tab), ("internal/strconv.uint64pow10", laid_internal_strconv_uint64pow10), ("padlock/room.reserved", laid_padlock_room_reserved)], narrowed := true }
def ProveExploresUptoSaid : Prop := proveExploresUptoRow.holds Tryz.pinned (OpenSpec.upto proveExploresSpec)

end Rows
end Go.Proofs.YtfcgcpjnpdkjmaaGreatDoor
