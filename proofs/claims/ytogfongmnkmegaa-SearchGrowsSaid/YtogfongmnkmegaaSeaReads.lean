/- What the arguments of the laws read: data of the types. -/
import Derived.Test.YtogfongmnkmegaaRows
import Derived.Test.YtogfongmnkmegaaChecked
import Derived.Test.YtogfongmnkmegaaPadTop
import Derived.Test.YtogfongmnkmegaaSeaXT
set_option linter.unusedVariables false
namespace Go.Proofs.Ytogfongmnkmegaa
open Go Go.Proofs.Ytogfongmnkmegaa.Pad Go.ChangeShapes Go.WideShapes Go.ChangeAt Go.RowKit

theorem own : ownKnob Try.prog.godebug = none := by kernel_rfl
theorem laidOut : laidOutB Try.prog = true := by kernel_rfl
section
variable {H : Type} {enc : TypeId × Value → H} {W : World} {base : Nat} {sp : Nat → Bool} {hd : Bool}
theorem rd26 : Rd enc Try.prog W base sp hd (List Int) 26 := rd_list Try.underlying26 (by kernel_rfl) (rd_int Try.underlying3)
theorem rd131 : Rd enc Try.prog W base sp hd Pad.State 131 :=
  rd_struct _ (fun x => ⟨x.1, x.2.1, x.2.2⟩) (fun _ => rfl) Try.underlying131 (by kernel_rfl)
    (rdF_cons rfl (by kernel_rfl) rd26 (rdF_cons rfl (by kernel_rfl) rd26 (rdF_one rfl (by kernel_rfl) rd26)))
theorem rd72 : Rd enc Try.prog W base sp hd (List Bool) 72 := rd_list Try.underlying72 (by kernel_rfl) (rd_bool Try.underlying4)
theorem rd133 : Rd enc Try.prog W base sp hd Pad.Position 133 :=
  rd_struct _ (fun x => ⟨x.1, x.2⟩) (fun _ => rfl) Try.underlying133 (by kernel_rfl)
    (rdF_cons rfl (by kernel_rfl) rd131 (rdF_one rfl (by kernel_rfl) rd72))
theorem rd22 : Rd enc Try.prog W base sp hd (List Pad.Position) 22 := rd_list Try.underlying22 (by kernel_rfl) rd133
theorem rd42 : Rd enc Try.prog W base sp hd Pad.Move 42 :=
  rd_struct _ (fun x => ⟨x.1, x.2.1, x.2.2⟩) (fun _ => rfl) Try.underlying42 (by kernel_rfl)
    (rdF_cons rfl (by kernel_rfl) (rd_int Try.underlying3) (rdF_cons rfl (by kernel_rfl) (rd_int Try.underlying3) (rdF_one rfl (by kernel_rfl) (rd_int Try.underlying3))))
theorem rd44 : Rd enc Try.prog W base sp hd Pad.Edge 44 :=
  rd_struct _ (fun x => ⟨x.1, x.2⟩) (fun _ => rfl) Try.underlying44 (by kernel_rfl)
    (rdF_cons rfl (by kernel_rfl) rd42 (rdF_one rfl (by kernel_rfl) (rd_int Try.underlying3)))
theorem rd40 : Rd enc Try.prog W base sp hd (List Pad.Edge) 40 := rd_list Try.underlying40 (by kernel_rfl) rd44
theorem rd23 : Rd enc Try.prog W base sp hd (List (List Pad.Edge)) 23 := rd_list Try.underlying23 (by kernel_rfl) rd40
theorem rd25 : Rd enc Try.prog W base sp hd Pad.Graph 25 :=
  rd_struct _ (fun x => ⟨x.1, x.2⟩) (fun _ => rfl) Try.underlying25 (by kernel_rfl)
    (rdF_cons rfl (by kernel_rfl) rd22 (rdF_one rfl (by kernel_rfl) rd23))
theorem rd28 : Rd enc Try.prog W base sp hd Pad.Mind 28 :=
  rd_struct _ (fun x => ⟨x.1, x.2⟩) (fun _ => rfl) Try.underlying28 (by kernel_rfl)
    (rdF_cons rfl (by kernel_rfl) (rd_int Try.underlying3) (rdF_one rfl (by kernel_rfl) (rd_int Try.underlying3)))
theorem rd30 : Rd enc Try.prog W base sp hd Pad.Law06_Run 30 :=
  rd_struct _ (fun x => ⟨x.1, x.2⟩) (fun _ => rfl) Try.underlying30 (by kernel_rfl)
    (rdF_cons rfl (by kernel_rfl) rd28 (rdF_one rfl (by kernel_rfl) (rd_int Try.underlying3)))
theorem rd54 : Rd enc Try.prog W base sp hd Pad.Law06_Other 54 :=
  rd_struct _ (fun x => ⟨x.1, x.2.1, x.2.2⟩) (fun _ => rfl) Try.underlying54 (by kernel_rfl)
    (rdF_cons rfl (by kernel_rfl) rd25 (rdF_cons rfl (by kernel_rfl) rd26 (rdF_one rfl (by kernel_rfl) rd30)))
end
end Go.Proofs.Ytogfongmnkmegaa
