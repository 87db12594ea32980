/- What the arguments of the laws read: data of the types. -/
import Derived.Test.YtlpdpeghgndmkaaRows
import Derived.Test.YtlpdpeghgndmkaaChecked
import Derived.Test.YtlpdpeghgndmkaaPadTop
import Derived.Test.YtlpdpeghgndmkaaHinT
set_option linter.unusedVariables false
namespace Go.Proofs.Ytlpdpeghgndmkaa
open Go Go.Proofs.Ytlpdpeghgndmkaa.Pad Go.ChangeShapes Go.WideShapes Go.ChangeAt Go.RowKit
theorem own : ownKnob Try.prog.godebug = none := by kernel_rfl
theorem laidOut : laidOutB Try.prog = true := by kernel_rfl
section
variable {H : Type} {enc : TypeId × Value → H} {W : World} {base : Nat} {sp : Nat → Bool} {hd : Bool}
theorem rd68 : Rd enc Try.prog W base sp hd Pad.CodeLock 68 :=
  mh_ _ (fun x => ⟨x.1, x.2⟩) (fun _ => rfl) Try.underlying68 (by kernel_rfl)
    (fk_ rfl (by kernel_rfl) (lc_ Try.underlying3) (rdF_one rfl (by kernel_rfl) (lc_ Try.underlying3)))
theorem rd22 : Rd enc Try.prog W base sp hd (List Pad.CodeLock) 22 := rd_list Try.underlying22 (by kernel_rfl) rd68
theorem rd28 : Rd enc Try.prog W base sp hd (List Int) 28 := rd_list Try.underlying28 (by kernel_rfl) (lc_ Try.underlying3)
theorem rd23 : Rd enc Try.prog W base sp hd (List (List Int)) 23 := rd_list Try.underlying23 (by kernel_rfl) rd28
theorem rd30 : Rd enc Try.prog W base sp hd Pad.Clue 30 :=
  mh_ _ (fun x => ⟨x.1, x.2.1, x.2.2.1, x.2.2.2.1, x.2.2.2.2.1, x.2.2.2.2.2.1, x.2.2.2.2.2.2⟩) (fun _ => rfl) Try.underlying30 (by kernel_rfl)
    (fk_ rfl (by kernel_rfl) (lc_ Try.underlying3) (fk_ rfl (by kernel_rfl) (lc_ Try.underlying3) (fk_ rfl (by kernel_rfl) (lc_ Try.underlying3) (fk_ rfl (by kernel_rfl) (lc_ Try.underlying3) (fk_ rfl (by kernel_rfl) (lc_ Try.underlying3) (fk_ rfl (by kernel_rfl) rd28 (rdF_one rfl (by kernel_rfl) (rd_bool Try.underlying4))))))))
theorem rd69 : Rd enc Try.prog W base sp hd (List Pad.Clue) 69 := rd_list Try.underlying69 (by kernel_rfl) rd30
theorem rd24 : Rd enc Try.prog W base sp hd (List (List Pad.Clue)) 24 := rd_list Try.underlying24 (by kernel_rfl) rd69
theorem rd58 : Rd enc Try.prog W base sp hd Pad.Tie 58 :=
  mh_ _ (fun x => ⟨x.1, x.2.1, x.2.2.1, x.2.2.2⟩) (fun _ => rfl) Try.underlying58 (by kernel_rfl)
    (fk_ rfl (by kernel_rfl) (lc_ Try.underlying3) (fk_ rfl (by kernel_rfl) (lc_ Try.underlying3) (fk_ rfl (by kernel_rfl) (lc_ Try.underlying3) (rdF_one rfl (by kernel_rfl) (lc_ Try.underlying3)))))
theorem rd25 : Rd enc Try.prog W base sp hd (List Pad.Tie) 25 := rd_list Try.underlying25 (by kernel_rfl) rd58
theorem rd27 : Rd enc Try.prog W base sp hd Pad.Riddle 27 :=
  mh_ _ (fun x => ⟨x.1, x.2.1, x.2.2.1, x.2.2.2⟩) (fun _ => rfl) Try.underlying27 (by kernel_rfl)
    (fk_ rfl (by kernel_rfl) rd22 (fk_ rfl (by kernel_rfl) rd23 (fk_ rfl (by kernel_rfl) rd24 (rdF_one rfl (by kernel_rfl) rd25))))
theorem rd32 : Rd enc Try.prog W base sp hd Pad.Aid 32 :=
  mh_ _ (fun x => ⟨x.1, x.2⟩) (fun _ => rfl) Try.underlying32 (by kernel_rfl)
    (fk_ rfl (by kernel_rfl) (lc_ Try.underlying3) (rdF_one rfl (by kernel_rfl) rd30))
end
end Go.Proofs.Ytlpdpeghgndmkaa
