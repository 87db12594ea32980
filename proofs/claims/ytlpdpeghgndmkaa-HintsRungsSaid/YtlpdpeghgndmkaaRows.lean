/-
  No cell of these rows narrows 'for every input' (looked for: loops, veiled, ifaces, maps, wideKeys, modest, calm, conditions, laid).
  DERIVED. THE GIVEN ROWS OF THIS SEAT. 5 by the template 'for every input the law returns true; each argument reads behind the call as it read before'; 0 by the template 'total and deterministic' (their statements: YtlpdpeghgndmkaaTotals.lean).
  GIVEN WITH THE SEED: the statements are not yours to turn. If you find one false, say at which input.
  Laid BY PROGRAM, IN A SANDBOX (cutbox-rows.mjs): the forced cells as the released guide's own fill.sh prints them over the translation ab579fdce7aea717… (all of the seat's roots in one cut). By AI agents, Wed Nov 11 2026. No macro, syntax, notation, axiom, sorry.
-/
import Derived.Test.YtlpdpeghgndmkaaChecked
import GoSem.Claim
import GoSem.ClaimJoined
import GoSem.ClaimMapViews
import Derived.JoinedTies
import Derived.KernelRfl
namespace Go.Proofs.Ytlpdpeghgndmkaa
/- THE CELL 'sum', in the pinned program and in every row, IS THE sha256 OF THE DUMP (.gsa) THAT YtlpdpeghgndmkaaProg.lean LOADS. Nothing in Lean hashes anything: it is a label: what it is worth is what the hold of that sum in a sandbox is worth. -/
noncomputable def Try.pinned : Pinned := { name := "ytlpdpeghgndmkaa", sum := "ab579fdce7aea7174ec3ef59e0c0338d0f85b7e1c1aa6fbc0d517a7c11486960", checked := Try.checked }
namespace Rows
def none {H : Type} : Left H := { results := [], args := [] }

/-- 'padlocklaw07.HintsApart': WHATEVER THE INPUT: true; the input reads as it did. -/
def hintsApartSpec : ChangeSpec := { name := "hintsApart", fn := fun _ => fun
  | [d1, d2] => { results := [.lit (.bool true)], args := [d1, d2] }
  | _ => none }
def hintsApartRow : OpenClaim := { program := "ytlpdpeghgndmkaa", sum := "ab579fdce7aea7174ec3ef59e0c0338d0f85b7e1c1aa6fbc0d517a7c11486960", func := "padlock/padlocklaw07.HintsApart", spec := "hintsApart", unfollowed := true, recurses := true, apart := false }
def HintsApartSaid : Prop := hintsApartRow.holds Try.pinned (OpenSpec.ofChange hintsApartSpec)

/-- ITS FALSE NEIGHBOUR: 'it returns false'. Refute it at one input. -/
def hintsApartWrong : ChangeSpec := { name := "hintsApart", fn := fun _ => fun
  | [d1, d2] => { results := [.lit (.bool false)], args := [d1, d2] }
  | _ => none }
def HintsApartWrongFalsely : Prop := hintsApartRow.holds Try.pinned (OpenSpec.ofChange hintsApartWrong)

/-- 'padlocklaw07.HintsTrue': WHATEVER THE INPUT: true; the input reads as it did. -/
def hintsTrueSpec : ChangeSpec := { name := "hintsTrue", fn := fun _ => fun
  | [d1, d2] => { results := [.lit (.bool true)], args := [d1, d2] }
  | _ => none }
def hintsTrueRow : OpenClaim := { program := "ytlpdpeghgndmkaa", sum := "ab579fdce7aea7174ec3ef59e0c0338d0f85b7e1c1aa6fbc0d517a7c11486960", func := "padlock/padlocklaw07.HintsTrue", spec := "hintsTrue", unfollowed := true, recurses := true, apart := false }
def HintsTrueSaid : Prop := hintsTrueRow.holds Try.pinned (OpenSpec.ofChange hintsTrueSpec)

/-- ITS FALSE NEIGHBOUR: 'it returns false'. Refute it at one input. -/
def hintsTrueWrong : ChangeSpec := { name := "hintsTrue", fn := fun _ => fun
  | [d1, d2] => { results := [.lit (.bool false)], args := [d1, d2] }
  | _ => none }
def HintsTrueWrongFalsely : Prop := hintsTrueRow.holds Try.pinned (OpenSpec.ofChange hintsTrueWrong)

/-- 'padlocklaw07.HintsKnows': WHATEVER THE INPUT: true; the input reads as it did. -/
def hintsKnowsSpec : ChangeSpec := { name := "hintsKnows", fn := fun _ => fun
  | [d1, d2] => { results := [.lit (.bool true)], args := [d1, d2] }
  | _ => none }
def hintsKnowsRow : OpenClaim := { program := "ytlpdpeghgndmkaa", sum := "ab579fdce7aea7174ec3ef59e0c0338d0f85b7e1c1aa6fbc0d517a7c11486960", func := "padlock/padlocklaw07.HintsKnows", spec := "hintsKnows", unfollowed := true, recurses := true, apart := false }
def HintsKnowsSaid : Prop := hintsKnowsRow.holds Try.pinned (OpenSpec.ofChange hintsKnowsSpec)

/-- ITS FALSE NEIGHBOUR: 'it returns false'. Refute it at one input. -/
def hintsKnowsWrong : ChangeSpec := { name := "hintsKnows", fn := fun _ => fun
  | [d1, d2] => { results := [.lit (.bool false)], args := [d1, d2] }
  | _ => none }
def HintsKnowsWrongFalsely : Prop := hintsKnowsRow.holds Try.pinned (OpenSpec.ofChange hintsKnowsWrong)

/-- 'padlocklaw07.HintsMore': WHATEVER THE INPUT: true; the input reads as it did. -/
def hintsMoreSpec : ChangeSpec := { name := "hintsMore", fn := fun _ => fun
  | [d1, d2, d3] => { results := [.lit (.bool true)], args := [d1, d2, d3] }
  | _ => none }
def hintsMoreRow : OpenClaim := { program := "ytlpdpeghgndmkaa", sum := "ab579fdce7aea7174ec3ef59e0c0338d0f85b7e1c1aa6fbc0d517a7c11486960", func := "padlock/padlocklaw07.HintsMore", spec := "hintsMore", unfollowed := true, recurses := true, apart := false }
def HintsMoreSaid : Prop := hintsMoreRow.holds Try.pinned (OpenSpec.ofChange hintsMoreSpec)

/-- ITS FALSE NEIGHBOUR: 'it returns false'. Refute it at one input. -/
def hintsMoreWrong : ChangeSpec := { name := "hintsMore", fn := fun _ => fun
  | [d1, d2, d3] => { results := [.lit (.bool false)], args := [d1, d2, d3] }
  | _ => none }
def HintsMoreWrongFalsely : Prop := hintsMoreRow.holds Try.pinned (OpenSpec.ofChange hintsMoreWrong)

/-- 'padlocklaw07.HintsRungs': WHATEVER THE INPUT: true; the input reads as it did. -/
def hintsRungsSpec : ChangeSpec := { name := "hintsRungs", fn := fun _ => fun
  | [d1, d2, d3] => { results := [.lit (.bool true)], args := [d1, d2, d3] }
  | _ => none }
def hintsRungsRow : OpenClaim := { program := "ytlpdpeghgndmkaa", sum := "ab579fdce7aea7174ec3ef59e0c0338d0f85b7e1c1aa6fbc0d517a7c11486960", func := "padlock/padlocklaw07.HintsRungs", spec := "hintsRungs", unfollowed := true, recurses := true, apart := false }
def HintsRungsSaid : Prop := hintsRungsRow.holds Try.pinned (OpenSpec.ofChange hintsRungsSpec)

/-- ITS FALSE NEIGHBOUR: 'it returns false'. Refute it at one input. -/
def hintsRungsWrong : ChangeSpec := { name := "hintsRungs", fn := fun _ => fun
  | [d1, d2, d3] => { results := [.lit (.bool false)], args := [d1, d2, d3] }
  | _ => none }
def HintsRungsWrongFalsely : Prop := hintsRungsRow.holds Try.pinned (OpenSpec.ofChange hintsRungsWrong)

/- THE SECOND FORM. 'bulk': how many values and letters a reading holds, each counted each time it is reached (what is shared counts as often as it is met; a slice's spare places count too). A statement '..UptoSaid' is the law's where the arguments, and the package variables that the reading takes, are together of bulk at most 1048576: NARROWER than '..Said'. Prove '..Said' where nothing that the law and all that it calls make is longer than what came in: it says more and counts as full. Else prove '..UptoSaid'. A law counts once. -/
mutual
def uptoBulk {H : Type} : DataW H → Nat
  | .lit (.string bytes) => bytes.length + 1
  | .lit _ => 1
  | .nil => 1
  | .ptr d => uptoBulk d + 1
  | .slice elems spare => uptoBulkAll elems + uptoBulkAll spare + 1
  | .agg parts => uptoBulkAll parts + 1
  | .iface _ d => uptoBulk d + 1
  | .map entries => uptoBulkEntries entries + 1
  | .held _ => 1
def uptoBulkAll {H : Type} : List (DataW H) → Nat
  | [] => 0
  | d :: r => uptoBulk d + uptoBulkAll r
def uptoBulkEntries {H : Type} : List (Lit × DataW H) → Nat
  | [] => 0
  | x :: r => uptoBulkEntry x + uptoBulkEntries r
def uptoBulkEntry {H : Type} : Lit × DataW H → Nat
  | (.string bytes, d) => bytes.length + uptoBulk d + 1
  | (_, d) => uptoBulk d + 1
 end
def uptoSmall : (H : Type) → List (DataW H) → Bool := fun _ ds => decide (uptoBulkAll ds ≤ 1048576)
def OpenSpec.upto (s : _root_.Go.ChangeSpec) : _root_.Go.OpenSpec := { _root_.Go.OpenSpec.ofChange s with cond := some uptoSmall }

/-- 'padlocklaw07.HintsApart', WHERE WHAT IT READS IS OF BULK AT MOST 1048576: true; the input reads as it did. -/
def hintsApartUptoRow : OpenClaim := { program := "ytlpdpeghgndmkaa", sum := "ab579fdce7aea7174ec3ef59e0c0338d0f85b7e1c1aa6fbc0d517a7c11486960", func := "padlock/padlocklaw07.HintsApart", spec := "hintsApart", unfollowed := true, recurses := true, apart := false, narrowed := true }
def HintsApartUptoSaid : Prop := hintsApartUptoRow.holds Try.pinned (OpenSpec.upto hintsApartSpec)

/-- 'padlocklaw07.HintsTrue', WHERE WHAT IT READS IS OF BULK AT MOST 1048576: true; the input reads as it did. -/
def hintsTrueUptoRow : OpenClaim := { program := "ytlpdpeghgndmkaa", sum := "ab579fdce7aea7174ec3ef59e0c0338d0f85b7e1c1aa6fbc0d517a7c11486960", func := "padlock/padlocklaw07.HintsTrue", spec := "hintsTrue", unfollowed := true, recurses := true, apart := false, narrowed := true }
def HintsTrueUptoSaid : Prop := hintsTrueUptoRow.holds Try.pinned (OpenSpec.upto hintsTrueSpec)

/-- 'padlocklaw07.HintsKnows', WHERE WHAT IT READS IS OF BULK AT MOST 1048576: true; the input reads as it did. -/
def hintsKnowsUptoRow : OpenClaim := { program := "ytlpdpeghgndmkaa", sum := "ab579fdce7aea7174ec3ef59e0c0338d0f85b7e1c1aa6fbc0d517a7c11486960", func := "padlock/padlocklaw07.HintsKnows", spec := "hintsKnows", unfollowed := true, recurses := true, apart := false, narrowed := true }
def HintsKnowsUptoSaid : Prop := hintsKnowsUptoRow.holds Try.pinned (OpenSpec.upto hintsKnowsSpec)

/-- 'padlocklaw07.HintsMore', WHERE WHAT IT READS IS OF BULK AT MOST 1048576: true; the input reads as it did. -/
def hintsMoreUptoRow : OpenClaim := { program := "ytlpdpeghgndmkaa", sum := "ab579fdce7aea7174ec3ef59e0c0338d0f85b7e1c1aa6fbc0d517a7c11486960", func := "padlock/padlocklaw07.HintsMore", spec := "hintsMore", unfollowed := true, recurses := true, apart := false, narrowed := true }
def HintsMoreUptoSaid : Prop := hintsMoreUptoRow.holds Try.pinned (OpenSpec.upto hintsMoreSpec)

/-- 'padlocklaw07.HintsRungs', WHERE WHAT IT READS IS OF BULK AT MOST 1048576: true; the input reads as it did. -/
def hintsRungsUptoRow : OpenClaim := { program := "ytlpdpeghgndmkaa", sum := "ab579fdce7aea7174ec3ef59e0c0338d0f85b7e1c1aa6fbc0d517a7c11486960", func := "padlock/padlocklaw07.HintsRungs", spec := "hintsRungs", unfollowed := true, recurses := true, apart := false, narrowed := true }
def HintsRungsUptoSaid : Prop := hintsRungsUptoRow.holds Try.pinned (OpenSpec.upto hintsRungsSpec)

end Rows
end Go.Proofs.Ytlpdpeghgndmkaa
