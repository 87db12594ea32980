/- Pools of aids, by the reference: the same. -/
import Derived.Test.YtlpdpeghgndmkaaGreatLawZL
import Derived.Test.YtlpdpeghgndmkaaGreatLawZTells
set_option linter.unusedVariables false
set_option linter.unusedSimpArgs false
namespace Go.Proofs.YtlpdpeghgndmkaaGreat.Pad
open Go
noncomputable def choose' (r : Riddle) (pool : List Aid) (l : Int) (bt : Int → Int → Bool) : Int × Int := if allE r pool l = 0 then (if (pb_ r pool l bt).1 < 0 then (0, 3) else ((pb_ r pool l bt).1, 0)) else (0, allE r pool l)
theorem mz_ {r : Riddle} {pool : List Aid} {l : Int} {f : Int → Int → Option Bool} {bt : Int → Int → Bool} (hf : ∀ a b, f a b = some (bt a b)) : he_ r pool l f = some (choose' r pool l bt) := by
  unfold he_ choose'
  rw [kr_, Option.bind_some]
  by_cases h : allE r pool l = 0
  · rw [h, if_neg (by simp), if_pos rfl, hints_pick_eq hf, Option.bind_some]
    by_cases hb : (pb_ r pool l bt).1 < 0
    · rw [if_pos (decide_eq_true hb), if_pos hb]
    · rw [if_neg (by simpa using hb), if_neg hb]
  · rw [if_neg h, if_pos (by simpa using h)]
theorem hints_Gentle_eq (r : Riddle) (pool : List Aid) (l : Int) : iy_ r pool l = some (choose' r pool l more') := by
  unfold iy_
  rw [mz_ (f := nn_) (bt := more') (fun a b => rfl)]; rfl
theorem hints_Strong_eq (r : Riddle) (pool : List Aid) (l : Int) : ix_ r pool l = some (choose' r pool l less') := by
  unfold ix_
  rw [mz_ (f := no_) (bt := less') (fun a b => rfl)]; rfl
end Go.Proofs.YtlpdpeghgndmkaaGreat.Pad
