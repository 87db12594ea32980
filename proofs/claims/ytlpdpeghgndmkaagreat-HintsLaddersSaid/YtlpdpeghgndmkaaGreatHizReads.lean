/- What the arguments of the laws read: data of the types. -/
import Derived.Test.YtlpdpeghgndmkaaGreatRows
import Derived.Test.YtlpdpeghgndmkaaGreatChecked
import Derived.Test.YtlpdpeghgndmkaaGreatPadTop
import Derived.Test.YtlpdpeghgndmkaaGreatHizT
set_option linter.unusedVariables false
namespace Go.Proofs.YtlpdpeghgndmkaaGreat
open Go Go.Proofs.YtlpdpeghgndmkaaGreat.Pad Go.ChangeShapes Go.WideShapes Go.ChangeAt Go.RowKit
theorem own : ownKnob Tryz.prog.godebug = none := by kernel_rfl
theorem laidOut : laidOutB Tryz.prog = true := by kernel_rfl
section
variable {H : Type} {enc : TypeId × Value → H} {W : World} {base : Nat} {sp : Nat → Bool} {hd : Bool}
theorem rd62 : Rd enc Tryz.prog W base sp hd Pad.CodeLock 62 :=
  nu_ _ (fun x => ⟨x.1, x.2⟩) (fun _ => rfl) Tryz.underlying62 (by kernel_rfl)
    (ga_ rfl (by kernel_rfl) (mr_ Tryz.underlying3) (uh_ rfl (by kernel_rfl) (mr_ Tryz.underlying3)))
theorem rd22 : Rd enc Tryz.prog W base sp hd (List Pad.CodeLock) 22 := po_ Tryz.underlying22 (by kernel_rfl) rd62
theorem rd28 : Rd enc Tryz.prog W base sp hd (List Int) 28 := po_ Tryz.underlying28 (by kernel_rfl) (mr_ Tryz.underlying3)
theorem rd23 : Rd enc Tryz.prog W base sp hd (List (List Int)) 23 := po_ Tryz.underlying23 (by kernel_rfl) rd28
theorem rd30 : Rd enc Tryz.prog W base sp hd Pad.Clue 30 :=
  nu_ _ (fun x => ⟨x.1, x.2.1, x.2.2.1, x.2.2.2.1, x.2.2.2.2.1, x.2.2.2.2.2.1, x.2.2.2.2.2.2⟩) (fun _ => rfl) Tryz.underlying30 (by kernel_rfl)
    (ga_ rfl (by kernel_rfl) (mr_ Tryz.underlying3) (ga_ rfl (by kernel_rfl) (mr_ Tryz.underlying3) (ga_ rfl (by kernel_rfl) (mr_ Tryz.underlying3) (ga_ rfl (by kernel_rfl) (mr_ Tryz.underlying3) (ga_ rfl (by kernel_rfl) (mr_ Tryz.underlying3) (ga_ rfl (by kernel_rfl) rd28 (uh_ rfl (by kernel_rfl) (rd_bool Tryz.underlying4))))))))
theorem rd63 : Rd enc Tryz.prog W base sp hd (List Pad.Clue) 63 := po_ Tryz.underlying63 (by kernel_rfl) rd30
theorem rd24 : Rd enc Tryz.prog W base sp hd (List (List Pad.Clue)) 24 := po_ Tryz.underlying24 (by kernel_rfl) rd63
theorem rd75 : Rd enc Tryz.prog W base sp hd Pad.Tie 75 :=
  nu_ _ (fun x => ⟨x.1, x.2.1, x.2.2.1, x.2.2.2⟩) (fun _ => rfl) Tryz.underlying75 (by kernel_rfl)
    (ga_ rfl (by kernel_rfl) (mr_ Tryz.underlying3) (ga_ rfl (by kernel_rfl) (mr_ Tryz.underlying3) (ga_ rfl (by kernel_rfl) (mr_ Tryz.underlying3) (uh_ rfl (by kernel_rfl) (mr_ Tryz.underlying3)))))
theorem rd25 : Rd enc Tryz.prog W base sp hd (List Pad.Tie) 25 := po_ Tryz.underlying25 (by kernel_rfl) rd75
theorem rd27 : Rd enc Tryz.prog W base sp hd Pad.Riddle 27 :=
  nu_ _ (fun x => ⟨x.1, x.2.1, x.2.2.1, x.2.2.2⟩) (fun _ => rfl) Tryz.underlying27 (by kernel_rfl)
    (ga_ rfl (by kernel_rfl) rd22 (ga_ rfl (by kernel_rfl) rd23 (ga_ rfl (by kernel_rfl) rd24 (uh_ rfl (by kernel_rfl) rd25))))
theorem rd32 : Rd enc Tryz.prog W base sp hd Pad.Aid 32 :=
  nu_ _ (fun x => ⟨x.1, x.2⟩) (fun _ => rfl) Tryz.underlying32 (by kernel_rfl)
    (ga_ rfl (by kernel_rfl) (mr_ Tryz.underlying3) (uh_ rfl (by kernel_rfl) rd30))
theorem rd45 : Rd enc Tryz.prog W base sp hd (List Pad.Aid) 45 := po_ Tryz.underlying45 (by kernel_rfl) rd32
end
end Go.Proofs.YtlpdpeghgndmkaaGreat
