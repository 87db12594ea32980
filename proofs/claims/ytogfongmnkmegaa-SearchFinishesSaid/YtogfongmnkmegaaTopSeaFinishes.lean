/- SearchFinishes answers true for every input. No condition. -/
import Derived.Test.YtogfongmnkmegaaRows
import Derived.Test.YtogfongmnkmegaaChecked
import Derived.Test.YtogfongmnkmegaaSeaReads2
import Derived.Test.YtogfongmnkmegaaLawFinishes
import Derived.Test.YtogfongmnkmegaaSeaXW18
set_option linter.unusedVariables false
namespace Go.Proofs.Ytogfongmnkmegaa
open Go Go.Proofs.Ytogfongmnkmegaa.Pad Go.ChangeShapes Go.WideShapes Go.ChangeAt Go.RowKit
theorem searchFinishes_reads : ∀ t ∈ Try.f5.params.toList, Try.prog.readableRec t = true ∧ t < Try.prog.types.size := by
  rw [Try.params5]
  intro t ht
  simp only [List.mem_cons, List.not_mem_nil, or_false] at ht
  rcases ht with rfl | rfl | rfl
  · exact ⟨by kernel_rfl, of_decide_eq_true (by kernel_rfl)⟩
  · exact ⟨by kernel_rfl, of_decide_eq_true (by kernel_rfl)⟩
  · exact ⟨by kernel_rfl, of_decide_eq_true (by kernel_rfl)⟩
set_option maxRecDepth 100000 in
theorem searchFinishes_lifted (os : Os) (started : os.Started) (H : Type) (enc : TypeId × Value → H) :
    ReturnsInHanded {} Try.checked os 5 .any (Rows.searchFinishesSpec.pre6 enc Try.prog Try.f5 Rows.searchFinishesRow.domain false) (Rows.searchFinishesSpec.post enc Try.prog Try.f5 false true false false) := by
  refine returnsInHanded_of_change (C := Try.checked) own started (by kernel_rfl) Try.func5
    (ChangeSpec.witness6 (enc := enc) (C := Try.checked) false ⟨#[], #[.agg #[.slice none 0 0, .slice none 0 0], .slice none 0 0, .int .i64 0], []⟩ 8 (by kernel_rfl) (by kernel_rfl) (by kernel_rfl) (by kernel_rfl)) ?_
  intro W base args ds gs before hval0 hW _ _
  have hval : ∀ (j : Nat) t v, Try.f5.params[j]? = some t → args[j]? = some v → Value.okWide Try.prog W .any base t v := hval0
  have hW' := hW
  obtain ⟨p, q, hA0, hV, hpq, hfz, hnd⟩ := hW
  have hA : DataW.TrodAll enc Try.prog W 0 (fun _ => true) true Try.f5.params.toList args.toList ds p := hA0
  rw [Try.params5] at hA hval
  obtain ⟨v0, v1, v2, d0, d1, d2, p0, p1, p2, rfl, rfl, hp, h0, h1, h2⟩ := trodAll_three hA
  obtain ⟨rfl, hq⟩ := trodVars_none hV
  obtain ⟨a0, r0⟩ := le_ (α := Pad.Graph) rfl Try.underlying25 (hval 0 25 v0 rfl rfl) h0 rd25
  obtain ⟨a1, r1⟩ := mm_ (α := Int) Try.underlying26 (hval 1 26 v1 rfl rfl) h1 rd26
  obtain ⟨a2, rfl, _, _, wf2⟩ := open_int Try.underlying3 (hval 2 3 v2 rfl rfl) h2
  refine (F5_ok (inv_all W) r0 r1 (F5_law a0 a1 a2)).mono fun e W' he => ?_
  cases e with
  | returned v =>
    obtain ⟨T, O', hle, hI, rfl, rfl⟩ := he
    exact ⟨_, rfl, mp_ laidOut searchFinishes_reads rfl (by kernel_rfl) Try.underlying4 hW' (Old.of_inv hI hle) rfl rfl rfl⟩
  | panicked c => exact he.elim
  | outgrown => exact he.elim
theorem searchFinishes_holds : Rows.SearchFinishesSaid :=
  OpenClaim.holds_of_wide 5 Try.f5 rfl rfl rfl rfl rfl rfl rfl ⟨rfl, rfl, rfl, rfl, rfl⟩ rfl rfl rfl rfl rfl (by kernel_rfl) Try.func5 (by kernel_rfl)
    (of_decide_eq_true (by kernel_rfl)) (by unfold Func.isWrapper; first | (rw [if_pos (by decide +kernel)]; kernel_rfl) | (rw [if_neg (by decide +kernel)]; exact ⟨rfl, rfl⟩))
    (fun os started H enc _ => searchFinishes_lifted os started H enc)
end Go.Proofs.Ytogfongmnkmegaa
