/- The true codes are always possible; all possible codes of all locks; what is small. -/
import Derived.Test.YtlpdpeghgndmkaaLawHK
set_option linter.unusedVariables false
set_option linter.unusedSimpArgs false
namespace Go.Proofs.Ytlpdpeghgndmkaa.Pad
open Go
theorem codes_prod {r : Riddle} (g : Good r) : r.Codes ∈ go_ (fb_ r) := by
  rw [je_]
  refine ⟨by rw [hv_ g]; exact g.hc, fun i a x ha hx => ?_⟩
  obtain ⟨l, c, k, e1, e2, e3, y, b, d, e, f, z⟩ := g.at_ (i := i) (by have := lt_of_get? ha; rwa [hv_ g] at this)
  rw [z] at ha; rw [e2] at hx
  obtain rfl := Option.some.inj ha
  obtain rfl := Option.some.inj hx
  exact (rdg_mem y).2 ⟨b, f⟩
theorem codes_world {r : Riddle} (g : Good r) : r.Codes ∈ Wc r := by
  unfold Wc
  rw [List.mem_filter]
  exact ⟨codes_prod g, List.all_eq_true.2 fun t ht => (okTie_at (g.ti t ht)).2⟩
theorem code_poss {r : Riddle} (g : Good r) {i : Nat} {c : List Int} (hc : r.Codes[i]? = some c) : c ∈ poss r i := by
  have hi : i < r.Locks.length := by have := lt_of_get? hc; rwa [g.hc] at this
  obtain ⟨l, c', k, e1, e2, e3, y, b, d, e, f, z⟩ := g.at_ hi
  rw [e2] at hc
  obtain rfl := Option.some.inj hc
  rw [poss_at z, List.mem_filter]
  refine ⟨(rdg_mem y).2 ⟨b, f⟩, ?_⟩
  unfold mayBe
  rw [List.any_eq_true]
  exact ⟨_, codes_world g, by simp [e2]⟩
end Go.Proofs.Ytlpdpeghgndmkaa.Pad
