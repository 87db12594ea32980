/- What the arguments of the laws read: data of the types. -/
import Derived.Test.YtogfongmnkmegaaRows
import Derived.Test.YtogfongmnkmegaaChecked
import Derived.Test.YtogfongmnkmegaaPadTop
import Derived.Test.YtogfongmnkmegaaSeaXT
set_option linter.unusedVariables false
namespace Go.Proofs.Ytogfongmnkmegaa
open Go Go.Proofs.Ytogfongmnkmegaa.Pad Go.ChangeShapes Go.WideShapes Go.ChangeAt Go.RowKit
theorem own : ownKnob Try.prog.godebug = none := by kernel_rfl
theorem laidOut : laidOutB Try.prog = true := by kernel_rfl
section
variable {H : Type} {enc : TypeId × Value → H} {W : World} {base : Nat} {sp : Nat → Bool} {hd : Bool}
theorem rd26 : Rd enc Try.prog W base sp hd (List Int) 26 := gt_ Try.underlying26 (by kernel_rfl) (ig_ Try.underlying3)
theorem rd131 : Rd enc Try.prog W base sp hd Pad.State 131 :=
  er_ _ (fun x => ⟨x.1, x.2.1, x.2.2⟩) (fun _ => rfl) Try.underlying131 (by kernel_rfl)
    (ek_ rfl (by kernel_rfl) rd26 (ek_ rfl (by kernel_rfl) rd26 (gu_ rfl (by kernel_rfl) rd26)))
theorem rd72 : Rd enc Try.prog W base sp hd (List Bool) 72 := gt_ Try.underlying72 (by kernel_rfl) (rd_bool Try.underlying4)
theorem rd133 : Rd enc Try.prog W base sp hd Pad.Position 133 :=
  er_ _ (fun x => ⟨x.1, x.2⟩) (fun _ => rfl) Try.underlying133 (by kernel_rfl)
    (ek_ rfl (by kernel_rfl) rd131 (gu_ rfl (by kernel_rfl) rd72))
theorem rd22 : Rd enc Try.prog W base sp hd (List Pad.Position) 22 := gt_ Try.underlying22 (by kernel_rfl) rd133
theorem rd42 : Rd enc Try.prog W base sp hd Pad.Move 42 :=
  er_ _ (fun x => ⟨x.1, x.2.1, x.2.2⟩) (fun _ => rfl) Try.underlying42 (by kernel_rfl)
    (ek_ rfl (by kernel_rfl) (ig_ Try.underlying3) (ek_ rfl (by kernel_rfl) (ig_ Try.underlying3) (gu_ rfl (by kernel_rfl) (ig_ Try.underlying3))))
theorem rd44 : Rd enc Try.prog W base sp hd Pad.Edge 44 :=
  er_ _ (fun x => ⟨x.1, x.2⟩) (fun _ => rfl) Try.underlying44 (by kernel_rfl)
    (ek_ rfl (by kernel_rfl) rd42 (gu_ rfl (by kernel_rfl) (ig_ Try.underlying3)))
theorem rd40 : Rd enc Try.prog W base sp hd (List Pad.Edge) 40 := gt_ Try.underlying40 (by kernel_rfl) rd44
theorem rd23 : Rd enc Try.prog W base sp hd (List (List Pad.Edge)) 23 := gt_ Try.underlying23 (by kernel_rfl) rd40
theorem rd25 : Rd enc Try.prog W base sp hd Pad.Graph 25 :=
  er_ _ (fun x => ⟨x.1, x.2⟩) (fun _ => rfl) Try.underlying25 (by kernel_rfl)
    (ek_ rfl (by kernel_rfl) rd22 (gu_ rfl (by kernel_rfl) rd23))
end
end Go.Proofs.Ytogfongmnkmegaa
