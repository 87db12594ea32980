/- The true codes are always possible; all possible codes of all locks; what is small. -/
import Derived.Test.YtlpdpeghgndmkaaLawHK
set_option linter.unusedVariables false
set_option linter.unusedSimpArgs false
namespace Go.Proofs.Ytlpdpeghgndmkaa.Pad
open Go
theorem codes_prod {r : Riddle} (g : Good r) : r.Codes ∈ fs_ (ej_ r) := by
  rw [ga_]
  refine ⟨by rw [fr_ g]; exact g.hc, fun i a x ha hx => ?_⟩
  obtain ⟨l, c, k, e1, e2, e3, y, b, d, e, f, z⟩ := g.at_ (i := i) (by have := lt_of_get? ha; rwa [fr_ g] at this)
  rw [z] at ha; rw [e2] at hx
  obtain rfl := Option.some.inj ha
  obtain rfl := Option.some.inj hx
  exact (rdg_mem y).2 ⟨b, f⟩
theorem poss_free {r : Riddle} (g : Good r) (ht : r.Ties = []) {i : Nat} {a : List (List Int)} (ha : (ej_ r)[i]? = some a) : poss r i = a := by
  rw [poss_at ha, List.filter_eq_self]
  intro c hc
  unfold mayBe
  rw [List.any_eq_true]
  obtain ⟨p1, p2⟩ := ga_.1 (codes_prod g)
  have hi := lt_of_get? ha
  refine ⟨r.Codes.set i c, ?_, by rw [List.getElem?_set_self (by omega)]; simp⟩
  unfold Wc
  rw [List.mem_filter, ht]
  refine ⟨ga_.2 ⟨by rw [List.length_set, p1], fun j b x hb hx => ?_⟩, rfl⟩
  rw [List.getElem?_set] at hx
  by_cases e : i = j
  · subst e
    rw [if_pos rfl, if_pos (by omega)] at hx
    rw [ha] at hb
    obtain rfl := Option.some.inj hb
    obtain rfl := Option.some.inj hx
    exact hc
  · rw [if_neg e] at hx
    exact p2 j b x hb hx
theorem law07_all_eq {r : Riddle} (h : st r = 0) : ln_ r = some (kg_ r, true) := by
  obtain ⟨g, hf⟩ := mq_ h
  have n8 := g.n8
  unfold ln_
  have := forN_ix (σ := List (List (List Int))) (ρ := List (List (List Int)) × Bool) (k := r.Locks.length) (fun j => (kg_ r).take j) (body := fun i1 s1 =>
     (ex_ r (i1 : Int)).bind fun x7 =>
     if x7.2 != 0 then
     (some (Sum.inr (([] : List (List (List Int))), false)))
     else
     ((push? s1 ([x7.1] : List (List (List Int)))).bind fun x8 =>
     some (Sum.inl x8))) (by
    intro j hj
    have hp : posE r (j : Int) = 0 := by unfold posE; rw [if_pos h, ey_.2 (by omega)]; rfl
    rw [hints_Possible_eq, Option.bind_some, if_pos hp, hp, if_neg (by simp), eo_ (by rw [List.length_take, List.length_singleton]; omega), Option.bind_some, le_ (lk_ hj)]
    rfl)
  refine (congrArg (fun o => Option.bind o _) this).trans ?_
  rw [Option.bind_some, ← kf_ r, List.take_length]
  rfl
theorem chkW_fold : ∀ (xs : List Nat) (s : Nat), s ≤ 20000 → chkW s xs = true → ∀ j, (xs.take j).foldl (· * ·) s ≤ 20000
  | [], s, hs, _, j => by simpa using hs
  | x :: xs, s, hs, h, 0 => by simpa using hs
  | x :: xs, s, hs, h, j + 1 => by
    unfold chkW at h
    by_cases hb : 20000 < s * x
    · rw [if_pos hb] at h; cases h
    · rw [if_neg hb] at h
      simpa using chkW_fold xs (s * x) (by omega) h j
theorem foldl_mul : ∀ (xs : List Nat) (s : Nat), xs.foldl (· * ·) s = s * xs.foldr (· * ·) 1
  | [], s => by simp
  | x :: xs, s => by
    rw [List.foldl_cons, foldl_mul xs (s * x), List.foldr_cons, Nat.mul_assoc]
end Go.Proofs.Ytlpdpeghgndmkaa.Pad
