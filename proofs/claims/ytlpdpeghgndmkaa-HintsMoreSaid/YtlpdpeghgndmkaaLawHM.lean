/- The true codes are always possible; all possible codes of all locks; what is small. -/
import Derived.Test.YtlpdpeghgndmkaaLawHK
set_option linter.unusedVariables false
set_option linter.unusedSimpArgs false
namespace Go.Proofs.Ytlpdpeghgndmkaa.Pad
open Go
theorem codes_prod {r : Riddle} (g : Good r) : r.Codes ∈ el_ (dv_ r) := by
  rw [go_]
  refine ⟨by rw [dy_ g]; exact g.hc, fun i a x ha hx => ?_⟩
  obtain ⟨l, c, k, e1, e2, e3, y, b, d, e, f, z⟩ := g.at_ (i := i) (by have := lt_of_get? ha; rwa [dy_ g] at this)
  rw [z] at ha; rw [e2] at hx
  obtain rfl := Option.some.inj ha
  obtain rfl := Option.some.inj hx
  exact (rdg_mem y).2 ⟨b, f⟩
theorem codes_world {r : Riddle} (g : Good r) : r.Codes ∈ Wc r := by
  unfold Wc
  rw [List.mem_filter]
  exact ⟨codes_prod g, List.all_eq_true.2 fun t ht => (okTie_at (g.ti t ht)).2⟩
theorem code_poss {r : Riddle} (g : Good r) {i : Nat} {c : List Int} (hc : r.Codes[i]? = some c) : c ∈ poss r i := by
  have hi : i < r.Locks.length := by have := lt_of_get? hc; rwa [g.hc] at this
  obtain ⟨l, c', k, e1, e2, e3, y, b, d, e, f, z⟩ := g.at_ hi
  rw [e2] at hc
  obtain rfl := Option.some.inj hc
  rw [ns_ z, List.mem_filter]
  refine ⟨(rdg_mem y).2 ⟨b, f⟩, ?_⟩
  unfold nf_
  rw [List.any_eq_true]
  exact ⟨_, codes_world g, by simp [e2]⟩
theorem law07_all_eq {r : Riddle} (h : st r = 0) : ix_ r = some (lr_ r, true) := by
  obtain ⟨g, hf⟩ := jm_ h
  have n8 := g.n8
  unfold ix_
  have := forN_ix (σ := List (List (List Int))) (ρ := List (List (List Int)) × Bool) (k := r.Locks.length) (fun j => (lr_ r).take j) (body := fun i1 s1 =>
     (fg_ r (i1 : Int)).bind fun x7 =>
     if x7.2 != 0 then
     (some (Sum.inr (([] : List (List (List Int))), false)))
     else
     ((push? s1 ([x7.1] : List (List (List Int)))).bind fun x8 =>
     some (Sum.inl x8))) (by
    intro j hj
    have hp : posE r (j : Int) = 0 := by unfold posE; rw [if_pos h, ey_.2 (by omega)]; rfl
    rw [lh_, Option.bind_some, if_pos hp, hp, if_neg (by simp), cx_ (by rw [List.length_take, List.length_singleton]; omega), Option.bind_some, kn_ (iv_ hj)]
    rfl)
  refine (congrArg (fun o => Option.bind o _) this).trans ?_
  rw [Option.bind_some, ← mi_ r, List.take_length]
  rfl
theorem law07_all_tot (r : Riddle) (h : st r ≠ 0) : ∃ b, ix_ r = some ([], b) := by
  unfold ix_
  cases hn : r.Locks.length with
  | zero => exact ⟨true, rfl⟩
  | succ n =>
    refine ⟨false, ?_⟩
    simp only [forN]
    have hp : posE r ((0 : Nat) : Int) = st r := by unfold posE; rw [if_neg h]
    rw [lh_, Option.bind_some, hp, if_neg h, if_pos (by simpa using h)]
    rfl
theorem law07_holds_eq (ps : List (List Int)) (c : List Int) : gw_ ps c = some (ps.any fun x => decide (x = c)) := by
  unfold gw_
  rw [jg_ (l := ps) (p := fun x => !decide (x = c)) (r := true) (by
    intro j x hx
    rw [bk_ hx, Option.bind_some, gb_, Option.bind_some]
    by_cases e : x = c <;> simp [e]), Option.bind_some]
  rw [List.all_eq_not_any_not]
  simp only [Bool.not_not]
  cases ps.any fun x => decide (x = c) <;> rfl
theorem holds_mem {ps : List (List Int)} {c : List Int} (h : c ∈ ps) : gw_ ps c = some true := by
  rw [law07_holds_eq]
  congr 1
  rw [List.any_eq_true]
  exact ⟨c, h, by simp⟩
end Go.Proofs.Ytlpdpeghgndmkaa.Pad
