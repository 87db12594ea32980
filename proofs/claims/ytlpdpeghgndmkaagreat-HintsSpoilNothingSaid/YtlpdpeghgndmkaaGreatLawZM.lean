/- The true codes are always possible; all possible codes of all locks; what is small. -/
import Derived.Test.YtlpdpeghgndmkaaGreatLawZK
set_option linter.unusedVariables false
set_option linter.unusedSimpArgs false
namespace Go.Proofs.YtlpdpeghgndmkaaGreat.Pad
open Go
theorem law07_all_eq {r : Riddle} (h : st r = 0) : fw_ r = some (jm_ r, true) := by
  obtain ⟨g, hf⟩ := mx_ h
  have n8 := g.n8
  unfold fw_
  have := forN_ix (σ := List (List (List Int))) (ρ := List (List (List Int)) × Bool) (k := r.Locks.length) (fun j => (jm_ r).take j) (body := fun i1 s1 =>
     (fi_ r (i1 : Int)).bind fun x7 =>
     if x7.2 != 0 then
     (some (Sum.inr (([] : List (List (List Int))), false)))
     else
     ((push? s1 ([x7.1] : List (List (List Int)))).bind fun x8 =>
     some (Sum.inl x8))) (by
    intro j hj
    have hp : posE r (j : Int) = 0 := by unfold posE; rw [if_pos h, ey_.2 (by omega)]; rfl
    rw [lz_, Option.bind_some, if_pos hp, hp, if_neg (by simp), er_ (by rw [List.length_take, List.length_singleton]; omega), Option.bind_some, mw_ (lv_ hj)]
    rfl)
  refine (congrArg (fun o => Option.bind o _) this).trans ?_
  rw [Option.bind_some, ← ia_ r, List.take_length]
  rfl
theorem law07_all_tot (r : Riddle) (h : st r ≠ 0) : ∃ b, fw_ r = some ([], b) := by
  unfold fw_
  cases hn : r.Locks.length with
  | zero => exact ⟨true, rfl⟩
  | succ n =>
    refine ⟨false, ?_⟩
    simp only [forN]
    have hp : posE r ((0 : Nat) : Int) = st r := by unfold posE; rw [if_neg h]
    rw [lz_, Option.bind_some, hp, if_neg h, if_pos (by simpa using h)]
    rfl
end Go.Proofs.YtlpdpeghgndmkaaGreat.Pad
