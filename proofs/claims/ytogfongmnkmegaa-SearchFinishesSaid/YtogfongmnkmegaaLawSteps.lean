/- Steps, Worst, Mean of both. -/
import Derived.Test.YtogfongmnkmegaaLawTrails
set_option linter.unusedVariables false
namespace Go.Proofs.Ytogfongmnkmegaa.Pad
open Go Go.Proofs
def StepsIs (g : Graph) (d : List Int) (mem most : Int) (n : Nat) (r : List Int × Bool) : Prop :=
  (r.2 = true ∧ r.1.length = n ∧ ∀ i (h : i < r.1.length), ∃ tr : List Int, F46 ⟨g.Edges, d⟩ ⟨mem, (i : Int)⟩ most = some (tr, true) ∧ r.1[i] = tr.length ∧ (tr.length : Int) ≤ most) ∨
  (r = ([], false) ∧ ∃ i : Nat, i < n ∧ ∃ tr, F46 ⟨g.Edges, d⟩ ⟨mem, (i : Int)⟩ most = some (tr, false))
theorem StepsIs.uniq {g : Graph} {d : List Int} {mem most : Int} {n : Nat} {r r' : List Int × Bool} (h : StepsIs g d mem most n r) (h' : StepsIs g d mem most n r') : r = r' := by
  obtain ⟨l, b⟩ := r
  obtain ⟨l', b'⟩ := r'
  rcases h with ⟨h1, h2, h3⟩ | ⟨h1, i, h2, tr, h3⟩ <;> rcases h' with ⟨h1', h2', h3'⟩ | ⟨h1', i', h2', tr', h3'⟩
  · simp only at h1 h2 h3 h1' h2' h3'
    subst h1; subst h1'
    congr 1
    apply List.ext_getElem (by omega)
    intro i a c
    obtain ⟨t1, e1, e2, _⟩ := h3 i a
    obtain ⟨t2, e3, e4, _⟩ := h3' i c
    rw [e1] at e3; cases e3
    rw [e2, e4]
  · obtain ⟨t1, e1, _⟩ := h3 i' (by omega)
    rw [e1] at h3'; cases h3'
  · obtain ⟨t1, e1, _⟩ := h3' i (by omega)
    rw [e1] at h3; cases h3
  · rw [h1, h1']
def MaxIs (l : List Int) (v t : Int) : Prop := ∃ (k : Nat) (h : k < l.length), t = k ∧ v = l[k] ∧ (∀ i (h : i < l.length), l[i] ≤ v) ∧ ∀ i (hi : i < k), l[i]'(by omega) < v
theorem MaxIs.uniq {l : List Int} {v t v' t' : Int} (h : MaxIs l v t) (h' : MaxIs l v' t') : v = v' ∧ t = t' := by
  obtain ⟨k, hk, rfl, rfl, a, b⟩ := h
  obtain ⟨k', hk', rfl, rfl, a', b'⟩ := h'
  have h1 := a k' hk'
  have h2 := a' k hk
  refine ⟨by omega, ?_⟩
  rcases Nat.lt_trichotomy k k' with c | c | c
  · have := b' k c; omega
  · omega
  · have := b k' c; omega
end Go.Proofs.Ytogfongmnkmegaa.Pad
