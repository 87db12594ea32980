/- What the arguments of the laws of control read: data of the types. -/
import Derived.Test.YtfeomcdhhgeilaaRows
import Derived.Test.YtfeomcdhhgeilaaChecked
import Derived.Test.YtfeomcdhhgeilaaPadTop
import Derived.Test.YtfeomcdhhgeilaaPadST
set_option linter.unusedVariables false
namespace Go.Proofs.Ytfeomcdhhgeilaa
open Go Go.Proofs.Ytfeomcdhhgeilaa.Pad Go.ChangeShapes Go.WideShapes Go.ChangeAt Go.RowKit

theorem own : ownKnob Try.prog.godebug = none := by kernel_rfl
theorem laidOut : laidOutB Try.prog = true := by kernel_rfl
section
variable {H : Type} {enc : TypeId × Value → H} {W : World} {base : Nat} {sp : Nat → Bool} {hd : Bool}
theorem rdSense : Rd enc Try.prog W base sp hd Sense 44 :=
  rd_struct _ (fun x => ⟨x.1, x.2.1, x.2.2⟩) (fun _ => rfl) Try.underlying44 (by kernel_rfl)
    (rdF_cons rfl (by kernel_rfl) (rd_int Try.underlying3) (rdF_cons rfl (by kernel_rfl) (rd_int Try.underlying3) (rdF_one rfl (by kernel_rfl) (rd_bool Try.underlying4))))
theorem rdGate : Rd enc Try.prog W base sp hd Gate 33 :=
  rd_struct _ (fun x => ⟨x.1, x.2⟩) (fun _ => rfl) Try.underlying33 (by kernel_rfl)
    (rdF_cons rfl (by kernel_rfl) (rd_int Try.underlying3) (rdF_one rfl (by kernel_rfl) (rd_list Try.underlying31 (by kernel_rfl) rdSense)))
theorem rdPanel : Rd enc Try.prog W base sp hd Panel 24 :=
  rd_struct _ (fun x => ⟨x.1, x.2.1, x.2.2.1, x.2.2.2⟩) (fun _ => rfl) Try.underlying24 (by kernel_rfl)
    (rdF_cons rfl (by kernel_rfl) (rd_int Try.underlying3) (rdF_cons rfl (by kernel_rfl) (rd_list Try.underlying22 (by kernel_rfl) rdGate) (rdF_cons rfl (by kernel_rfl) (rd_int Try.underlying3) (rdF_one rfl (by kernel_rfl) (rd_int Try.underlying3)))))
theorem rdSignal : Rd enc Try.prog W base sp hd Signal 46 :=
  rd_struct _ (fun x => ⟨x.1, x.2.1, x.2.2.1, x.2.2.2⟩) (fun _ => rfl) Try.underlying46 (by kernel_rfl)
    (rdF_cons rfl (by kernel_rfl) (rd_int Try.underlying3) (rdF_cons rfl (by kernel_rfl) (rd_int Try.underlying3) (rdF_cons rfl (by kernel_rfl) (rd_int Try.underlying3) (rdF_one rfl (by kernel_rfl) (rd_int Try.underlying3)))))
theorem rdSignals : Rd enc Try.prog W base sp hd (List Signal) 25 := rd_list Try.underlying25 (by kernel_rfl) rdSignal
theorem rdWhere : Rd enc Try.prog W base sp hd Law08_Where 27 :=
  rd_struct _ (fun x => ⟨x.1, x.2⟩) (fun _ => rfl) Try.underlying27 (by kernel_rfl)
    (rdF_cons rfl (by kernel_rfl) (rd_int Try.underlying3) (rdF_one rfl (by kernel_rfl) (rd_int Try.underlying3)))
theorem rdFilm : Rd enc Try.prog W base sp hd Law08_Film 59 :=
  rd_struct _ (fun x => ⟨x.1, x.2⟩) (fun _ => rfl) Try.underlying59 (by kernel_rfl)
    (rdF_cons rfl (by kernel_rfl) (rd_int Try.underlying3) (rdF_one rfl (by kernel_rfl) (rd_list Try.underlying34 (by kernel_rfl) (rd_int Try.underlying3))))
theorem rdLoss : Rd enc Try.prog W base sp hd Law08_Loss 68 :=
  rd_struct _ (fun x => ⟨x.1, x.2.1, x.2.2⟩) (fun _ => rfl) Try.underlying68 (by kernel_rfl)
    (rdF_cons rfl (by kernel_rfl) (rd_int Try.underlying3) (rdF_cons rfl (by kernel_rfl) (rd_int Try.underlying3) (rdF_one rfl (by kernel_rfl) (rd_list Try.underlying34 (by kernel_rfl) (rd_int Try.underlying3)))))
end

end Go.Proofs.Ytfeomcdhhgeilaa
