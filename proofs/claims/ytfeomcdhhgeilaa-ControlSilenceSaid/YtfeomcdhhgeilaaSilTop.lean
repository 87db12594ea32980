/- ControlSilence answers true for every input. -/
import Derived.Test.YtfeomcdhhgeilaaRows
import Derived.Test.YtfeomcdhhgeilaaChecked
import Derived.Test.YtfeomcdhhgeilaaPadTop
import Derived.Test.YtfeomcdhhgeilaaLawSilence
import Derived.Test.YtfeomcdhhgeilaaPadSW4
set_option linter.unusedVariables false
namespace Go.Proofs.Ytfeomcdhhgeilaa
open Go Go.Proofs.Ytfeomcdhhgeilaa.Pad Go.ChangeShapes Go.WideShapes Go.ChangeAt Go.RowKit

theorem own : ownKnob Try.prog.godebug = none := by kernel_rfl
theorem laidOut : laidOutB Try.prog = true := by kernel_rfl
section
variable {H : Type} {enc : TypeId × Value → H} {W : World} {base : Nat} {sp : Nat → Bool} {hd : Bool}
theorem rdSense : Rd enc Try.prog W base sp hd Sense 44 :=
  rd_struct _ (fun x => ⟨x.1, x.2.1, x.2.2⟩) (fun _ => rfl) Try.underlying44 (by kernel_rfl)
    (rdF_cons rfl (by kernel_rfl) (rd_int Try.underlying3) (rdF_cons rfl (by kernel_rfl) (rd_int Try.underlying3) (rdF_one rfl (by kernel_rfl) (rd_bool Try.underlying4))))
theorem rdGate : Rd enc Try.prog W base sp hd Gate 33 :=
  rd_struct _ (fun x => ⟨x.1, x.2⟩) (fun _ => rfl) Try.underlying33 (by kernel_rfl)
    (rdF_cons rfl (by kernel_rfl) (rd_int Try.underlying3) (rdF_one rfl (by kernel_rfl) (rd_list Try.underlying31 (by kernel_rfl) rdSense)))
theorem rdPanel : Rd enc Try.prog W base sp hd Panel 24 :=
  rd_struct _ (fun x => ⟨x.1, x.2.1, x.2.2.1, x.2.2.2⟩) (fun _ => rfl) Try.underlying24 (by kernel_rfl)
    (rdF_cons rfl (by kernel_rfl) (rd_int Try.underlying3) (rdF_cons rfl (by kernel_rfl) (rd_list Try.underlying22 (by kernel_rfl) rdGate) (rdF_cons rfl (by kernel_rfl) (rd_int Try.underlying3) (rdF_one rfl (by kernel_rfl) (rd_int Try.underlying3)))))
theorem rdSignal : Rd enc Try.prog W base sp hd Signal 46 :=
  rd_struct _ (fun x => ⟨x.1, x.2.1, x.2.2.1, x.2.2.2⟩) (fun _ => rfl) Try.underlying46 (by kernel_rfl)
    (rdF_cons rfl (by kernel_rfl) (rd_int Try.underlying3) (rdF_cons rfl (by kernel_rfl) (rd_int Try.underlying3) (rdF_cons rfl (by kernel_rfl) (rd_int Try.underlying3) (rdF_one rfl (by kernel_rfl) (rd_int Try.underlying3)))))
theorem rdSignals : Rd enc Try.prog W base sp hd (List Signal) 25 := rd_list Try.underlying25 (by kernel_rfl) rdSignal
theorem rdWhere : Rd enc Try.prog W base sp hd Law08_Where 27 :=
  rd_struct _ (fun x => ⟨x.1, x.2⟩) (fun _ => rfl) Try.underlying27 (by kernel_rfl)
    (rdF_cons rfl (by kernel_rfl) (rd_int Try.underlying3) (rdF_one rfl (by kernel_rfl) (rd_int Try.underlying3)))
end

theorem silence_reads : ∀ t ∈ Try.f3.params.toList, Try.prog.readableRec t = true ∧ t < Try.prog.types.size := by
  rw [Try.params3]
  intro t ht
  simp only [List.mem_cons, List.not_mem_nil, or_false] at ht
  rcases ht with rfl | rfl | rfl
  · exact ⟨by kernel_rfl, of_decide_eq_true (by kernel_rfl)⟩
  · exact ⟨by kernel_rfl, of_decide_eq_true (by kernel_rfl)⟩
  · exact ⟨by kernel_rfl, of_decide_eq_true (by kernel_rfl)⟩

set_option maxRecDepth 100000 in
theorem silence_lifted (os : Os) (started : os.Started) (H : Type) (enc : TypeId × Value → H) :
    ReturnsInHanded {} Try.checked os 3 .any (Rows.controlSilenceSpec.pre6 enc Try.prog Try.f3 Rows.controlSilenceRow.domain false) (Rows.controlSilenceSpec.post enc Try.prog Try.f3 false true false false) := by
  refine returnsInHanded_of_change (C := Try.checked) own started (by kernel_rfl) Try.func3
    (ChangeSpec.witness6 (enc := enc) (C := Try.checked) false ⟨#[], #[.agg #[.int .i64 0, .slice none 0 0, .int .i64 0, .int .i64 0], .slice none 0 0, .agg #[.int .i64 0, .int .i64 0]], []⟩ 8 (by kernel_rfl) (by kernel_rfl) (by kernel_rfl) (by kernel_rfl)) ?_
  intro W base args ds gs before hval0 hW _ _
  have hval : ∀ (j : Nat) t v, Try.f3.params[j]? = some t → args[j]? = some v → Value.okWide Try.prog W .any base t v := hval0
  have hW' := hW
  obtain ⟨p, q, hA0, hV, hpq, hfz, hnd⟩ := hW
  have hA : DataW.TrodAll enc Try.prog W 0 (fun _ => true) true Try.f3.params.toList args.toList ds p := hA0
  rw [Try.params3] at hA hval
  obtain ⟨v0, v1, v2, d0, d1, d2, p0, p1, p2, rfl, rfl, hp, h0, h1, h2⟩ := trodAll_three hA
  obtain ⟨rfl, hq⟩ := trodVars_none hV
  obtain ⟨a0, r0⟩ := rv_struct (α := Panel) rfl Try.underlying24 (hval 0 24 v0 rfl rfl) h0 rdPanel
  obtain ⟨a1, r1⟩ := rv_slice (α := Signal) Try.underlying25 (hval 1 25 v1 rfl rfl) h1 rdSignals
  obtain ⟨a2, r2⟩ := rv_struct (α := Law08_Where) rfl Try.underlying27 (hval 2 27 v2 rfl rfl) h2 rdWhere
  refine (F3_ok (inv_all W) r0 r1 r2 (F3_law a0 a1 a2)).mono fun e W' he => ?_
  cases e with
  | returned v =>
    obtain ⟨T, O', hle, hI, rfl, rfl⟩ := he
    exact ⟨_, rfl, post_law laidOut silence_reads rfl (by kernel_rfl) Try.underlying4 hW' (Old.of_inv hI hle) rfl rfl rfl⟩
  | panicked c => exact he.elim
  | outgrown => exact he.elim

theorem silence_holds : Rows.ControlSilenceSaid :=
  OpenClaim.holds_of_wide 3 Try.f3 rfl rfl rfl rfl rfl rfl rfl ⟨rfl, rfl, rfl, rfl, rfl⟩ rfl rfl rfl rfl rfl (by kernel_rfl) Try.func3 (by kernel_rfl)
    (of_decide_eq_true (by kernel_rfl)) (by unfold Func.isWrapper; first | (rw [if_pos (by decide +kernel)]; kernel_rfl) | (rw [if_neg (by decide +kernel)]; exact ⟨rfl, rfl⟩))
    (fun os started H enc _ => silence_lifted os started H enc)
end Go.Proofs.Ytfeomcdhhgeilaa
