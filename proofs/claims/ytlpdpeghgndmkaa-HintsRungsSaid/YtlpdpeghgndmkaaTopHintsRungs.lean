/- HintsRungs answers true for every input. No condition. -/
import Derived.Test.YtlpdpeghgndmkaaRows
import Derived.Test.YtlpdpeghgndmkaaChecked
import Derived.Test.YtlpdpeghgndmkaaHinReads
import Derived.Test.YtlpdpeghgndmkaaLawHRungs
import Derived.Test.YtlpdpeghgndmkaaHinW22
set_option linter.unusedVariables false
namespace Go.Proofs.Ytlpdpeghgndmkaa
open Go Go.Proofs.Ytlpdpeghgndmkaa.Pad Go.ChangeShapes Go.WideShapes Go.ChangeAt Go.RowKit
theorem hintsRungs_reads : ∀ t ∈ Try.f7.params.toList, Try.prog.readableRec t = true ∧ t < Try.prog.types.size := by
  rw [Try.params7]
  intro t ht
  simp only [List.mem_cons, List.not_mem_nil, or_false] at ht
  rcases ht with rfl | rfl | rfl
  · exact ⟨by kernel_rfl, of_decide_eq_true (by kernel_rfl)⟩
  · exact ⟨by kernel_rfl, of_decide_eq_true (by kernel_rfl)⟩
  · exact ⟨by kernel_rfl, of_decide_eq_true (by kernel_rfl)⟩
set_option maxRecDepth 100000 in
theorem hintsRungs_lifted (os : Os) (started : os.Started) (H : Type) (enc : TypeId × Value → H) :
    ReturnsInHanded {} Try.checked os 7 .any (Rows.hintsRungsSpec.pre6 enc Try.prog Try.f7 Rows.hintsRungsRow.domain false) (Rows.hintsRungsSpec.post enc Try.prog Try.f7 false true false false) := by
  refine returnsInHanded_of_change (C := Try.checked) own started (by kernel_rfl) Try.func7
    (ChangeSpec.witness6 (enc := enc) (C := Try.checked) false ⟨#[], #[.agg #[.slice none 0 0, .slice none 0 0, .slice none 0 0, .slice none 0 0], .slice none 0 0, .int .i64 0], []⟩ 8 (by kernel_rfl) (by kernel_rfl) (by kernel_rfl) (by kernel_rfl)) ?_
  intro W base args ds gs before hval0 hW _ _
  have hval : ∀ (j : Nat) t v, Try.f7.params[j]? = some t → args[j]? = some v → Value.okWide Try.prog W .any base t v := hval0
  have hW' := hW
  obtain ⟨p, q, hA0, hV, hpq, hfz, hnd⟩ := hW
  have hA : DataW.TrodAll enc Try.prog W 0 (fun _ => true) true Try.f7.params.toList args.toList ds p := hA0
  rw [Try.params7] at hA hval
  obtain ⟨v0, v1, v2, d0, d1, d2, p0, p1, p2, rfl, rfl, hp, h0, h1, h2⟩ := trodAll_three hA
  obtain ⟨rfl, hq⟩ := trodVars_none hV
  obtain ⟨a0, r0⟩ := rv_struct (α := Pad.Riddle) rfl Try.underlying27 (hval 0 27 v0 rfl rfl) h0 rd27
  obtain ⟨a1, r1⟩ := rv_slice (α := Pad.Aid) Try.underlying44 (hval 1 44 v1 rfl rfl) h1 rd44
  obtain ⟨a2, rfl, _, _, wf2⟩ := open_int Try.underlying3 (hval 2 3 v2 rfl rfl) h2
  refine (pd_ (inv_all W) r0 r1 (pe_ a0 a1 a2)).mono fun e W' he => ?_
  cases e with
  | returned v =>
    obtain ⟨T, O', hle, hI, rfl, rfl⟩ := he
    exact ⟨_, rfl, post_law laidOut hintsRungs_reads rfl (by kernel_rfl) Try.underlying4 hW' (Old.of_inv hI hle) rfl rfl rfl⟩
  | panicked c => exact he.elim
  | outgrown => exact he.elim
theorem hintsRungs_holds : Rows.HintsRungsSaid :=
  OpenClaim.holds_of_wide 7 Try.f7 rfl rfl rfl rfl rfl rfl rfl ⟨rfl, rfl, rfl, rfl, rfl⟩ rfl rfl rfl rfl rfl (by kernel_rfl) Try.func7 (by kernel_rfl)
    (of_decide_eq_true (by kernel_rfl)) (by unfold Func.isWrapper; first | (rw [if_pos (by decide +kernel)]; kernel_rfl) | (rw [if_neg (by decide +kernel)]; exact ⟨rfl, rfl⟩))
    (fun os started H enc _ => hintsRungs_lifted os started H enc)
end Go.Proofs.Ytlpdpeghgndmkaa
