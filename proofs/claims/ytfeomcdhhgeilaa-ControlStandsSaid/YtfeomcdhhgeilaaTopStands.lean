/- ControlStands answers true for every input. No condition. -/
import Derived.Test.YtfeomcdhhgeilaaRows
import Derived.Test.YtfeomcdhhgeilaaChecked
import Derived.Test.YtfeomcdhhgeilaaPadReads
import Derived.Test.YtfeomcdhhgeilaaLawStands
import Derived.Test.YtfeomcdhhgeilaaPadSW20
set_option linter.unusedVariables false
namespace Go.Proofs.Ytfeomcdhhgeilaa
open Go Go.Proofs.Ytfeomcdhhgeilaa.Pad Go.ChangeShapes Go.WideShapes Go.ChangeAt Go.RowKit

theorem controlStands_reads : ∀ t ∈ Try.f7.params.toList, Try.prog.readableRec t = true ∧ t < Try.prog.types.size := by
  rw [Try.params7]
  intro t ht
  simp only [List.mem_cons, List.not_mem_nil, or_false] at ht
  rcases ht with rfl | rfl | rfl
  · exact ⟨by kernel_rfl, of_decide_eq_true (by kernel_rfl)⟩
  · exact ⟨by kernel_rfl, of_decide_eq_true (by kernel_rfl)⟩
  · exact ⟨by kernel_rfl, of_decide_eq_true (by kernel_rfl)⟩

set_option maxRecDepth 100000 in
theorem controlStands_lifted (os : Os) (started : os.Started) (H : Type) (enc : TypeId × Value → H) :
    ReturnsInHanded {} Try.checked os 7 .any (Rows.controlStandsSpec.pre6 enc Try.prog Try.f7 Rows.controlStandsRow.domain false) (Rows.controlStandsSpec.post enc Try.prog Try.f7 false true false false) := by
  refine returnsInHanded_of_change (C := Try.checked) own started (by kernel_rfl) Try.func7
    (ChangeSpec.witness6 (enc := enc) (C := Try.checked) false ⟨#[], #[.agg #[.int .i64 0, .slice none 0 0, .int .i64 0, .int .i64 0], .int .i64 0, .slice none 0 0], []⟩ 8 (by kernel_rfl) (by kernel_rfl) (by kernel_rfl) (by kernel_rfl)) ?_
  intro W base args ds gs before hval0 hW _ _
  have hval : ∀ (j : Nat) t v, Try.f7.params[j]? = some t → args[j]? = some v → Value.okWide Try.prog W .any base t v := hval0
  have hW' := hW
  obtain ⟨p, q, hA0, hV, hpq, hfz, hnd⟩ := hW
  have hA : DataW.TrodAll enc Try.prog W 0 (fun _ => true) true Try.f7.params.toList args.toList ds p := hA0
  rw [Try.params7] at hA hval
  obtain ⟨v0, v1, v2, d0, d1, d2, p0, p1, p2, rfl, rfl, hp, h0, h1, h2⟩ := trodAll_three hA
  obtain ⟨rfl, hq⟩ := trodVars_none hV
  obtain ⟨a0, r0⟩ := rv_struct (α := Panel) rfl Try.underlying24 (hval 0 24 v0 rfl rfl) h0 rdPanel
  obtain ⟨a1, rfl, _, _, wf1⟩ := open_int Try.underlying3 (hval 1 3 v1 rfl rfl) h1
  obtain ⟨a2, r2⟩ := rv_slice (α := Signal) Try.underlying25 (hval 2 25 v2 rfl rfl) h2 rdSignals
  refine (F7_ok (inv_all W) r0 r2 (F7_law a0 a1 a2)).mono fun e W' he => ?_
  cases e with
  | returned v =>
    obtain ⟨T, O', hle, hI, rfl, rfl⟩ := he
    exact ⟨_, rfl, post_law laidOut controlStands_reads rfl (by kernel_rfl) Try.underlying4 hW' (Old.of_inv hI hle) rfl rfl rfl⟩
  | panicked c => exact he.elim
  | outgrown => exact he.elim

theorem controlStands_holds : Rows.ControlStandsSaid :=
  OpenClaim.holds_of_wide 7 Try.f7 rfl rfl rfl rfl rfl rfl rfl ⟨rfl, rfl, rfl, rfl, rfl⟩ rfl rfl rfl rfl rfl (by kernel_rfl) Try.func7 (by kernel_rfl)
    (of_decide_eq_true (by kernel_rfl)) (by unfold Func.isWrapper; first | (rw [if_pos (by decide +kernel)]; kernel_rfl) | (rw [if_neg (by decide +kernel)]; exact ⟨rfl, rfl⟩))
    (fun os started H enc _ => controlStands_lifted os started H enc)
end Go.Proofs.Ytfeomcdhhgeilaa
