/- What the arguments of the laws read: data of the types. -/
import Derived.Test.YtlpdpeghgndmkaaGreatRows
import Derived.Test.YtlpdpeghgndmkaaGreatChecked
import Derived.Test.YtlpdpeghgndmkaaGreatPadTop
import Derived.Test.YtlpdpeghgndmkaaGreatHizT
set_option linter.unusedVariables false
namespace Go.Proofs.YtlpdpeghgndmkaaGreat
open Go Go.Proofs.YtlpdpeghgndmkaaGreat.Pad Go.ChangeShapes Go.WideShapes Go.ChangeAt Go.RowKit
theorem own : ownKnob Tryz.prog.godebug = none := by kernel_rfl
theorem laidOut : laidOutB Tryz.prog = true := by kernel_rfl
section
variable {H : Type} {enc : TypeId × Value → H} {W : World} {base : Nat} {sp : Nat → Bool} {hd : Bool}
theorem rd62 : Rd enc Tryz.prog W base sp hd Pad.CodeLock 62 :=
  og_ _ (fun x => ⟨x.1, x.2⟩) (fun _ => rfl) Tryz.underlying62 (by kernel_rfl)
    (gd_ rfl (by kernel_rfl) (mw_ Tryz.underlying3) (up_ rfl (by kernel_rfl) (mw_ Tryz.underlying3)))
theorem rd22 : Rd enc Tryz.prog W base sp hd (List Pad.CodeLock) 22 := qc_ Tryz.underlying22 (by kernel_rfl) rd62
theorem rd28 : Rd enc Tryz.prog W base sp hd (List Int) 28 := qc_ Tryz.underlying28 (by kernel_rfl) (mw_ Tryz.underlying3)
theorem rd23 : Rd enc Tryz.prog W base sp hd (List (List Int)) 23 := qc_ Tryz.underlying23 (by kernel_rfl) rd28
theorem rd30 : Rd enc Tryz.prog W base sp hd Pad.Clue 30 :=
  og_ _ (fun x => ⟨x.1, x.2.1, x.2.2.1, x.2.2.2.1, x.2.2.2.2.1, x.2.2.2.2.2.1, x.2.2.2.2.2.2⟩) (fun _ => rfl) Tryz.underlying30 (by kernel_rfl)
    (gd_ rfl (by kernel_rfl) (mw_ Tryz.underlying3) (gd_ rfl (by kernel_rfl) (mw_ Tryz.underlying3) (gd_ rfl (by kernel_rfl) (mw_ Tryz.underlying3) (gd_ rfl (by kernel_rfl) (mw_ Tryz.underlying3) (gd_ rfl (by kernel_rfl) (mw_ Tryz.underlying3) (gd_ rfl (by kernel_rfl) rd28 (up_ rfl (by kernel_rfl) (rd_bool Tryz.underlying4))))))))
theorem rd63 : Rd enc Tryz.prog W base sp hd (List Pad.Clue) 63 := qc_ Tryz.underlying63 (by kernel_rfl) rd30
theorem rd24 : Rd enc Tryz.prog W base sp hd (List (List Pad.Clue)) 24 := qc_ Tryz.underlying24 (by kernel_rfl) rd63
theorem rd75 : Rd enc Tryz.prog W base sp hd Pad.Tie 75 :=
  og_ _ (fun x => ⟨x.1, x.2.1, x.2.2.1, x.2.2.2⟩) (fun _ => rfl) Tryz.underlying75 (by kernel_rfl)
    (gd_ rfl (by kernel_rfl) (mw_ Tryz.underlying3) (gd_ rfl (by kernel_rfl) (mw_ Tryz.underlying3) (gd_ rfl (by kernel_rfl) (mw_ Tryz.underlying3) (up_ rfl (by kernel_rfl) (mw_ Tryz.underlying3)))))
theorem rd25 : Rd enc Tryz.prog W base sp hd (List Pad.Tie) 25 := qc_ Tryz.underlying25 (by kernel_rfl) rd75
theorem rd27 : Rd enc Tryz.prog W base sp hd Pad.Riddle 27 :=
  og_ _ (fun x => ⟨x.1, x.2.1, x.2.2.1, x.2.2.2⟩) (fun _ => rfl) Tryz.underlying27 (by kernel_rfl)
    (gd_ rfl (by kernel_rfl) rd22 (gd_ rfl (by kernel_rfl) rd23 (gd_ rfl (by kernel_rfl) rd24 (up_ rfl (by kernel_rfl) rd25))))
theorem rd32 : Rd enc Tryz.prog W base sp hd Pad.Aid 32 :=
  og_ _ (fun x => ⟨x.1, x.2⟩) (fun _ => rfl) Tryz.underlying32 (by kernel_rfl)
    (gd_ rfl (by kernel_rfl) (mw_ Tryz.underlying3) (up_ rfl (by kernel_rfl) rd30))
theorem rd45 : Rd enc Tryz.prog W base sp hd (List Pad.Aid) 45 := qc_ Tryz.underlying45 (by kernel_rfl) rd32
end
end Go.Proofs.YtlpdpeghgndmkaaGreat
