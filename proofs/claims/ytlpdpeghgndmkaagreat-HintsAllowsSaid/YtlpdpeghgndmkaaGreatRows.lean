/-
  No cell of these rows narrows 'for every input' (looked for: loops, veiled, ifaces, maps, wideKeys, modest, calm, conditions, laid).
  DERIVED. THE GIVEN ROWS OF THIS SEAT. 6 by the template 'for every input the law returns true; each argument reads behind the call as it read before'; 0 by the template 'total and deterministic' (their statements: YtlpdpeghgndmkaaGreatTotals.lean).
  GIVEN WITH THE SEED: the statements are not yours to turn. If you find one false, say at which input.
  Laid BY PROGRAM, IN A SANDBOX (cutbox-rows.mjs): the forced cells as the released guide's own fill.sh prints them over the translation 238bcc3b4d7d2faf… (all of the seat's roots in one cut). By AI agents, Wed Nov 11 2026. No macro, syntax, notation, axiom, sorry.
-/
import Derived.Test.YtlpdpeghgndmkaaGreatChecked
import GoSem.Claim
import GoSem.ClaimJoined
import GoSem.ClaimMapViews
import Derived.JoinedTies
import Derived.KernelRfl
namespace Go.Proofs.YtlpdpeghgndmkaaGreat
/- THE CELL 'sum', in the pinned program and in every row, IS THE sha256 OF THE DUMP (.gsa) THAT YtlpdpeghgndmkaaGreatProg.lean LOADS. Nothing in Lean hashes anything: it is a label: what it is worth is what the hold of that sum in a sandbox is worth. -/
noncomputable def Tryz.pinned : Pinned := { name := "ytlpdpeghgndmkaagreat", sum := "238bcc3b4d7d2fafe5061bf856b168818a21bd90a74d63151e62b7f60f2b984d", checked := Tryz.checked }
namespace Rows
def none {H : Type} : Left H := { results := [], args := [] }

/-- 'padlocklaw07.HintsTells': WHATEVER THE INPUT: true; the input reads as it did. -/
def hintsTellsSpec : ChangeSpec := { name := "hintsTells", fn := fun _ => fun
  | [d1, d2] => { results := [.lit (.bool true)], args := [d1, d2] }
  | _ => none }
def hintsTellsRow : OpenClaim := { program := "ytlpdpeghgndmkaagreat", sum := "238bcc3b4d7d2fafe5061bf856b168818a21bd90a74d63151e62b7f60f2b984d", func := "padlock/padlocklaw07.HintsTells", spec := "hintsTells", unfollowed := true, recurses := true, apart := false }
def HintsTellsSaid : Prop := hintsTellsRow.holds Tryz.pinned (OpenSpec.ofChange hintsTellsSpec)

/-- ITS FALSE NEIGHBOUR: 'it returns false'. Refute it at one input. -/
def hintsTellsWrong : ChangeSpec := { name := "hintsTells", fn := fun _ => fun
  | [d1, d2] => { results := [.lit (.bool false)], args := [d1, d2] }
  | _ => none }
def HintsTellsWrongFalsely : Prop := hintsTellsRow.holds Tryz.pinned (OpenSpec.ofChange hintsTellsWrong)

/-- 'padlocklaw07.HintsHides': WHATEVER THE INPUT: true; the input reads as it did. -/
def hintsHidesSpec : ChangeSpec := { name := "hintsHides", fn := fun _ => fun
  | [d1, d2, d3] => { results := [.lit (.bool true)], args := [d1, d2, d3] }
  | _ => none }
def hintsHidesRow : OpenClaim := { program := "ytlpdpeghgndmkaagreat", sum := "238bcc3b4d7d2fafe5061bf856b168818a21bd90a74d63151e62b7f60f2b984d", func := "padlock/padlocklaw07.HintsHides", spec := "hintsHides", unfollowed := true, recurses := true, apart := false }
def HintsHidesSaid : Prop := hintsHidesRow.holds Tryz.pinned (OpenSpec.ofChange hintsHidesSpec)

/-- ITS FALSE NEIGHBOUR: 'it returns false'. Refute it at one input. -/
def hintsHidesWrong : ChangeSpec := { name := "hintsHides", fn := fun _ => fun
  | [d1, d2, d3] => { results := [.lit (.bool false)], args := [d1, d2, d3] }
  | _ => none }
def HintsHidesWrongFalsely : Prop := hintsHidesRow.holds Tryz.pinned (OpenSpec.ofChange hintsHidesWrong)

/-- 'padlocklaw07.HintsLadders': WHATEVER THE INPUT: true; the input reads as it did. -/
def hintsLaddersSpec : ChangeSpec := { name := "hintsLadders", fn := fun _ => fun
  | [d1, d2, d3] => { results := [.lit (.bool true)], args := [d1, d2, d3] }
  | _ => none }
def hintsLaddersRow : OpenClaim := { program := "ytlpdpeghgndmkaagreat", sum := "238bcc3b4d7d2fafe5061bf856b168818a21bd90a74d63151e62b7f60f2b984d", func := "padlock/padlocklaw07.HintsLadders", spec := "hintsLadders", unfollowed := true, recurses := true, apart := false }
def HintsLaddersSaid : Prop := hintsLaddersRow.holds Tryz.pinned (OpenSpec.ofChange hintsLaddersSpec)

/-- ITS FALSE NEIGHBOUR: 'it returns false'. Refute it at one input. -/
def hintsLaddersWrong : ChangeSpec := { name := "hintsLadders", fn := fun _ => fun
  | [d1, d2, d3] => { results := [.lit (.bool false)], args := [d1, d2, d3] }
  | _ => none }
def HintsLaddersWrongFalsely : Prop := hintsLaddersRow.holds Tryz.pinned (OpenSpec.ofChange hintsLaddersWrong)

/-- 'padlocklaw07.HintsAllows': WHATEVER THE INPUT: true; the input reads as it did. -/
def hintsAllowsSpec : ChangeSpec := { name := "hintsAllows", fn := fun _ => fun
  | [d1, d2, d3] => { results := [.lit (.bool true)], args := [d1, d2, d3] }
  | _ => none }
def hintsAllowsRow : OpenClaim := { program := "ytlpdpeghgndmkaagreat", sum := "238bcc3b4d7d2fafe5061bf856b168818a21bd90a74d63151e62b7f60f2b984d", func := "padlock/padlocklaw07.HintsAllows", spec := "hintsAllows", unfollowed := true, recurses := true, apart := false }
def HintsAllowsSaid : Prop := hintsAllowsRow.holds Tryz.pinned (OpenSpec.ofChange hintsAllowsSpec)

/-- ITS FALSE NEIGHBOUR: 'it returns false'. Refute it at one input. -/
def hintsAllowsWrong : ChangeSpec := { name := "hintsAllows", fn := fun _ => fun
  | [d1, d2, d3] => { results := [.lit (.bool false)], args := [d1, d2, d3] }
  | _ => none }
def HintsAllowsWrongFalsely : Prop := hintsAllowsRow.holds Tryz.pinned (OpenSpec.ofChange hintsAllowsWrong)

/-- 'padlocklaw07.HintsGentle': WHATEVER THE INPUT: true; the input reads as it did. -/
def hintsGentleSpec : ChangeSpec := { name := "hintsGentle", fn := fun _ => fun
  | [d1, d2, d3] => { results := [.lit (.bool true)], args := [d1, d2, d3] }
  | _ => none }
def hintsGentleRow : OpenClaim := { program := "ytlpdpeghgndmkaagreat", sum := "238bcc3b4d7d2fafe5061bf856b168818a21bd90a74d63151e62b7f60f2b984d", func := "padlock/padlocklaw07.HintsGentle", spec := "hintsGentle", unfollowed := true, recurses := true, apart := false }
def HintsGentleSaid : Prop := hintsGentleRow.holds Tryz.pinned (OpenSpec.ofChange hintsGentleSpec)

/-- ITS FALSE NEIGHBOUR: 'it returns false'. Refute it at one input. -/
def hintsGentleWrong : ChangeSpec := { name := "hintsGentle", fn := fun _ => fun
  | [d1, d2, d3] => { results := [.lit (.bool false)], args := [d1, d2, d3] }
  | _ => none }
def HintsGentleWrongFalsely : Prop := hintsGentleRow.holds Tryz.pinned (OpenSpec.ofChange hintsGentleWrong)

/-- 'padlocklaw07.HintsSpoilNothing': WHATEVER THE INPUT: true; the input reads as it did. -/
def hintsSpoilNothingSpec : ChangeSpec := { name := "hintsSpoilNothing", fn := fun _ => fun
  | [d1, d2, d3] => { results := [.lit (.bool true)], args := [d1, d2, d3] }
  | _ => none }
def hintsSpoilNothingRow : OpenClaim := { program := "ytlpdpeghgndmkaagreat", sum := "238bcc3b4d7d2fafe5061bf856b168818a21bd90a74d63151e62b7f60f2b984d", func := "padlock/padlocklaw07.HintsSpoilNothing", spec := "hintsSpoilNothing", unfollowed := true, recurses := true, apart := false }
def HintsSpoilNothingSaid : Prop := hintsSpoilNothingRow.holds Tryz.pinned (OpenSpec.ofChange hintsSpoilNothingSpec)

/-- ITS FALSE NEIGHBOUR: 'it returns false'. Refute it at one input. -/
def hintsSpoilNothingWrong : ChangeSpec := { name := "hintsSpoilNothing", fn := fun _ => fun
  | [d1, d2, d3] => { results := [.lit (.bool false)], args := [d1, d2, d3] }
  | _ => none }
def HintsSpoilNothingWrongFalsely : Prop := hintsSpoilNothingRow.holds Tryz.pinned (OpenSpec.ofChange hintsSpoilNothingWrong)

/- THE SECOND FORM. 'bulk': how many values and letters a reading holds, each counted each time it is reached (what is shared counts as often as it is met; a slice's spare places count too). A statement '..UptoSaid' is the law's where the arguments, and the package variables that the reading takes, are together of bulk at most 1048576: NARROWER than '..Said'. Prove '..Said' where nothing that the law and all that it calls make is longer than what came in: it says more and counts as full. Else prove '..UptoSaid'. A law counts once. -/
mutual
def uptoBulk {H : Type} : DataW H → Nat
  | .lit (.string bytes) => bytes.length + 1
  | .lit _ => 1
  | .nil => 1
  | .ptr d => uptoBulk d + 1
  | .slice elems spare => uptoBulkAll elems + uptoBulkAll spare + 1
  | .agg parts => uptoBulkAll parts + 1
  | .iface _ d => uptoBulk d + 1
  | .map entries => uptoBulkEntries entries + 1
  | .held _ => 1
def uptoBulkAll {H : Type} : List (DataW H) → Nat
  | [] => 0
  | d :: r => uptoBulk d + uptoBulkAll r
def uptoBulkEntries {H : Type} : List (Lit × DataW H) → Nat
  | [] => 0
  | x :: r => uptoBulkEntry x + uptoBulkEntries r
def uptoBulkEntry {H : Type} : Lit × DataW H → Nat
  | (.string bytes, d) => bytes.length + uptoBulk d + 1
  | (_, d) => uptoBulk d + 1
 end
def uptoSmall : (H : Type) → List (DataW H) → Bool := fun _ ds => decide (uptoBulkAll ds ≤ 1048576)
def OpenSpec.upto (s : _root_.Go.ChangeSpec) : _root_.Go.OpenSpec := { _root_.Go.OpenSpec.ofChange s with cond := some uptoSmall }

/-- 'padlocklaw07.HintsTells', WHERE WHAT IT READS IS OF BULK AT MOST 1048576: true; the input reads as it did. -/
def hintsTellsUptoRow : OpenClaim := { program := "ytlpdpeghgndmkaagreat", sum := "238bcc3b4d7d2fafe5061bf856b168818a21bd90a74d63151e62b7f60f2b984d", func := "padlock/padlocklaw07.HintsTells", spec := "hintsTells", unfollowed := true, recurses := true, apart := false, narrowed := true }
def HintsTellsUptoSaid : Prop := hintsTellsUptoRow.holds Tryz.pinned (OpenSpec.upto hintsTellsSpec)

/-- 'padlocklaw07.HintsHides', WHERE WHAT IT READS IS OF BULK AT MOST 1048576: true; the input reads as it did. -/
def hintsHidesUptoRow : OpenClaim := { program := "ytlpdpeghgndmkaagreat", sum := "238bcc3b4d7d2fafe5061bf856b168818a21bd90a74d63151e62b7f60f2b984d", func := "padlock/padlocklaw07.HintsHides", spec := "hintsHides", unfollowed := true, recurses := true, apart := false, narrowed := true }
def HintsHidesUptoSaid : Prop := hintsHidesUptoRow.holds Tryz.pinned (OpenSpec.upto hintsHidesSpec)

/-- 'padlocklaw07.HintsLadders', WHERE WHAT IT READS IS OF BULK AT MOST 1048576: true; the input reads as it did. -/
def hintsLaddersUptoRow : OpenClaim := { program := "ytlpdpeghgndmkaagreat", sum := "238bcc3b4d7d2fafe5061bf856b168818a21bd90a74d63151e62b7f60f2b984d", func := "padlock/padlocklaw07.HintsLadders", spec := "hintsLadders", unfollowed := true, recurses := true, apart := false, narrowed := true }
def HintsLaddersUptoSaid : Prop := hintsLaddersUptoRow.holds Tryz.pinned (OpenSpec.upto hintsLaddersSpec)

/-- 'padlocklaw07.HintsAllows', WHERE WHAT IT READS IS OF BULK AT MOST 1048576: true; the input reads as it did. -/
def hintsAllowsUptoRow : OpenClaim := { program := "ytlpdpeghgndmkaagreat", sum := "238bcc3b4d7d2fafe5061bf856b168818a21bd90a74d63151e62b7f60f2b984d", func := "padlock/padlocklaw07.HintsAllows", spec := "hintsAllows", unfollowed := true, recurses := true, apart := false, narrowed := true }
def HintsAllowsUptoSaid : Prop := hintsAllowsUptoRow.holds Tryz.pinned (OpenSpec.upto hintsAllowsSpec)

/-- 'padlocklaw07.HintsGentle', WHERE WHAT IT READS IS OF BULK AT MOST 1048576: true; the input reads as it did. -/
def hintsGentleUptoRow : OpenClaim := { program := "ytlpdpeghgndmkaagreat", sum := "238bcc3b4d7d2fafe5061bf856b168818a21bd90a74d63151e62b7f60f2b984d", func := "padlock/padlocklaw07.HintsGentle", spec := "hintsGentle", unfollowed := true, recurses := true, apart := false, narrowed := true }
def HintsGentleUptoSaid : Prop := hintsGentleUptoRow.holds Tryz.pinned (OpenSpec.upto hintsGentleSpec)

/-- 'padlocklaw07.HintsSpoilNothing', WHERE WHAT IT READS IS OF BULK AT MOST 1048576: true; the input reads as it did. -/
def hintsSpoilNothingUptoRow : OpenClaim := { program := "ytlpdpeghgndmkaagreat", sum := "238bcc3b4d7d2fafe5061bf856b168818a21bd90a74d63151e62b7f60f2b984d", func := "padlock/padlocklaw07.HintsSpoilNothing", spec := "hintsSpoilNothing", unfollowed := true, recurses := true, apart := false, narrowed := true }
def HintsSpoilNothingUptoSaid : Prop := hintsSpoilNothingUptoRow.holds Tryz.pinned (OpenSpec.upto hintsSpoilNothingSpec)

end Rows
end Go.Proofs.YtlpdpeghgndmkaaGreat
