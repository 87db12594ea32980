/- What the arguments of the laws read: data of the types. -/
import Derived.Test.YtlpdpeghgndmkaaRows
import Derived.Test.YtlpdpeghgndmkaaChecked
import Derived.Test.YtlpdpeghgndmkaaPadTop
import Derived.Test.YtlpdpeghgndmkaaHinT
set_option linter.unusedVariables false
namespace Go.Proofs.Ytlpdpeghgndmkaa
open Go Go.Proofs.Ytlpdpeghgndmkaa.Pad Go.ChangeShapes Go.WideShapes Go.ChangeAt Go.RowKit
theorem own : ownKnob Try.prog.godebug = none := by kernel_rfl
theorem laidOut : laidOutB Try.prog = true := by kernel_rfl
section
variable {H : Type} {enc : TypeId × Value → H} {W : World} {base : Nat} {sp : Nat → Bool} {hd : Bool}
theorem rd68 : Rd enc Try.prog W base sp hd Pad.CodeLock 68 :=
  nf_ _ (fun x => ⟨x.1, x.2⟩) (fun _ => rfl) Try.underlying68 (by kernel_rfl)
    (fn_ rfl (by kernel_rfl) (lw_ Try.underlying3) (rdF_one rfl (by kernel_rfl) (lw_ Try.underlying3)))
theorem rd22 : Rd enc Try.prog W base sp hd (List Pad.CodeLock) 22 := oy_ Try.underlying22 (by kernel_rfl) rd68
theorem rd28 : Rd enc Try.prog W base sp hd (List Int) 28 := oy_ Try.underlying28 (by kernel_rfl) (lw_ Try.underlying3)
theorem rd23 : Rd enc Try.prog W base sp hd (List (List Int)) 23 := oy_ Try.underlying23 (by kernel_rfl) rd28
theorem rd30 : Rd enc Try.prog W base sp hd Pad.Clue 30 :=
  nf_ _ (fun x => ⟨x.1, x.2.1, x.2.2.1, x.2.2.2.1, x.2.2.2.2.1, x.2.2.2.2.2.1, x.2.2.2.2.2.2⟩) (fun _ => rfl) Try.underlying30 (by kernel_rfl)
    (fn_ rfl (by kernel_rfl) (lw_ Try.underlying3) (fn_ rfl (by kernel_rfl) (lw_ Try.underlying3) (fn_ rfl (by kernel_rfl) (lw_ Try.underlying3) (fn_ rfl (by kernel_rfl) (lw_ Try.underlying3) (fn_ rfl (by kernel_rfl) (lw_ Try.underlying3) (fn_ rfl (by kernel_rfl) rd28 (rdF_one rfl (by kernel_rfl) (rd_bool Try.underlying4))))))))
theorem rd69 : Rd enc Try.prog W base sp hd (List Pad.Clue) 69 := oy_ Try.underlying69 (by kernel_rfl) rd30
theorem rd24 : Rd enc Try.prog W base sp hd (List (List Pad.Clue)) 24 := oy_ Try.underlying24 (by kernel_rfl) rd69
theorem rd58 : Rd enc Try.prog W base sp hd Pad.Tie 58 :=
  nf_ _ (fun x => ⟨x.1, x.2.1, x.2.2.1, x.2.2.2⟩) (fun _ => rfl) Try.underlying58 (by kernel_rfl)
    (fn_ rfl (by kernel_rfl) (lw_ Try.underlying3) (fn_ rfl (by kernel_rfl) (lw_ Try.underlying3) (fn_ rfl (by kernel_rfl) (lw_ Try.underlying3) (rdF_one rfl (by kernel_rfl) (lw_ Try.underlying3)))))
theorem rd25 : Rd enc Try.prog W base sp hd (List Pad.Tie) 25 := oy_ Try.underlying25 (by kernel_rfl) rd58
theorem rd27 : Rd enc Try.prog W base sp hd Pad.Riddle 27 :=
  nf_ _ (fun x => ⟨x.1, x.2.1, x.2.2.1, x.2.2.2⟩) (fun _ => rfl) Try.underlying27 (by kernel_rfl)
    (fn_ rfl (by kernel_rfl) rd22 (fn_ rfl (by kernel_rfl) rd23 (fn_ rfl (by kernel_rfl) rd24 (rdF_one rfl (by kernel_rfl) rd25))))
theorem rd32 : Rd enc Try.prog W base sp hd Pad.Aid 32 :=
  nf_ _ (fun x => ⟨x.1, x.2⟩) (fun _ => rfl) Try.underlying32 (by kernel_rfl)
    (fn_ rfl (by kernel_rfl) (lw_ Try.underlying3) (rdF_one rfl (by kernel_rfl) rd30))
theorem rd44 : Rd enc Try.prog W base sp hd (List Pad.Aid) 44 := oy_ Try.underlying44 (by kernel_rfl) rd32
end
end Go.Proofs.Ytlpdpeghgndmkaa
