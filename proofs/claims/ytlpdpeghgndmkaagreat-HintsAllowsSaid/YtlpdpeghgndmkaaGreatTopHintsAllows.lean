/- HintsAllows answers true for every input. No condition. -/
import Derived.Test.YtlpdpeghgndmkaaGreatRows
import Derived.Test.YtlpdpeghgndmkaaGreatChecked
import Derived.Test.YtlpdpeghgndmkaaGreatHizReads
import Derived.Test.YtlpdpeghgndmkaaGreatLawAll
import Derived.Test.YtlpdpeghgndmkaaGreatHizW28
set_option linter.unusedVariables false
namespace Go.Proofs.YtlpdpeghgndmkaaGreat
open Go Go.Proofs.YtlpdpeghgndmkaaGreat.Pad Go.ChangeShapes Go.WideShapes Go.ChangeAt Go.RowKit
theorem hintsAllows_reads : ∀ t ∈ Tryz.f6.params.toList, Tryz.prog.readableRec t = true ∧ t < Tryz.prog.types.size := by
  rw [Tryz.params6]
  intro t ht
  simp only [List.mem_cons, List.not_mem_nil, or_false] at ht
  rcases ht with rfl | rfl | rfl
  · exact ⟨by kernel_rfl, of_decide_eq_true (by kernel_rfl)⟩
  · exact ⟨by kernel_rfl, of_decide_eq_true (by kernel_rfl)⟩
  · exact ⟨by kernel_rfl, of_decide_eq_true (by kernel_rfl)⟩
set_option maxRecDepth 100000 in
theorem hintsAllows_lifted (os : Os) (started : os.Started) (H : Type) (enc : TypeId × Value → H) :
    ReturnsInHanded {} Tryz.checked os 6 .any (Rows.hintsAllowsSpec.pre6 enc Tryz.prog Tryz.f6 Rows.hintsAllowsRow.domain false) (Rows.hintsAllowsSpec.post enc Tryz.prog Tryz.f6 false true false false) := by
  refine returnsInHanded_of_change (C := Tryz.checked) own started (by kernel_rfl) Tryz.func6
    (ChangeSpec.witness6 (enc := enc) (C := Tryz.checked) false ⟨#[], #[.agg #[.slice none 0 0, .slice none 0 0, .slice none 0 0, .slice none 0 0], .slice none 0 0, .int .i64 0], []⟩ 8 (by kernel_rfl) (by kernel_rfl) (by kernel_rfl) (by kernel_rfl)) ?_
  intro W base args ds gs before hval0 hW _ _
  have hval : ∀ (j : Nat) t v, Tryz.f6.params[j]? = some t → args[j]? = some v → Value.okWide Tryz.prog W .any base t v := hval0
  have hW' := hW
  obtain ⟨p, q, hA0, hV, hpq, hfz, hnd⟩ := hW
  have hA : DataW.TrodAll enc Tryz.prog W 0 (fun _ => true) true Tryz.f6.params.toList args.toList ds p := hA0
  rw [Tryz.params6] at hA hval
  obtain ⟨v0, v1, v2, d0, d1, d2, p0, p1, p2, rfl, rfl, hp, h0, h1, h2⟩ := trodAll_three hA
  obtain ⟨rfl, hq⟩ := trodVars_none hV
  obtain ⟨a0, r0⟩ := rv_struct (α := Pad.Riddle) rfl Tryz.underlying27 (hval 0 27 v0 rfl rfl) h0 rd27
  obtain ⟨a1, r1⟩ := rv_slice (α := Pad.Aid) Tryz.underlying45 (hval 1 45 v1 rfl rfl) h1 rd45
  obtain ⟨a2, rfl, _, _, wf2⟩ := open_int Tryz.underlying3 (hval 2 3 v2 rfl rfl) h2
  refine (pi_ (inv_all W) r0 r1 (pj_ a0 a1 a2)).mono fun e W' he => ?_
  cases e with
  | returned v =>
    obtain ⟨T, O', hle, hI, rfl, rfl⟩ := he
    exact ⟨_, rfl, post_law laidOut hintsAllows_reads rfl (by kernel_rfl) Tryz.underlying4 hW' (Old.of_inv hI hle) rfl rfl rfl⟩
  | panicked c => exact he.elim
  | outgrown => exact he.elim
theorem hintsAllows_holds : Rows.HintsAllowsSaid :=
  OpenClaim.holds_of_wide 6 Tryz.f6 rfl rfl rfl rfl rfl rfl rfl ⟨rfl, rfl, rfl, rfl, rfl⟩ rfl rfl rfl rfl rfl (by kernel_rfl) Tryz.func6 (by kernel_rfl)
    (of_decide_eq_true (by kernel_rfl)) (by unfold Func.isWrapper; first | (rw [if_pos (by decide +kernel)]; kernel_rfl) | (rw [if_neg (by decide +kernel)]; exact ⟨rfl, rfl⟩))
    (fun os started H enc _ => hintsAllows_lifted os started H enc)
end Go.Proofs.YtlpdpeghgndmkaaGreat
