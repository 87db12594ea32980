/- Walks along the edges that are known. -/
import Derived.Test.YtogfongmnkmegaaLawGCheck
set_option linter.unusedVariables false
namespace Go.Proofs.Ytogfongmnkmegaa.Pad
open Go Go.Proofs
abbrev z0 : Edge := ⟨⟨0, 0, 0⟩, 0⟩
def nx (E : List (List Edge)) (p i : Int) : Int := (ix z0 (ba_ E p) i).To
inductive Wk (E : List (List Edge)) (kn : Int → Int → Bool) : Nat → Int → Int → Prop
  | nil (p : Int) : Wk E kn 0 p p
  | cons {k : Nat} {p i q : Int} : kn p i = true → Wk E kn k (nx E p i) q → Wk E kn (k + 1) p q
def Di (E : List (List Edge)) (kn : Int → Int → Bool) (k : Nat) (p q : Int) : Prop := Wk E kn k p q ∧ ∀ j, j < k → ¬ Wk E kn j p q
def me_ (E : List (List Edge)) (kn : Int → Int → Bool) : Prop := ∀ p i, kn p i = true → 0 ≤ p ∧ p < E.length ∧ 0 ≤ i ∧ i < (ba_ E p).length
def ez_ (E : List (List Edge)) : Prop := ∀ p i : Int, 0 ≤ p → p < E.length → 0 ≤ i → i < (ba_ E p).length → 0 ≤ nx E p i ∧ nx E p i < E.length
section
variable {E : List (List Edge)} {kn : Int → Int → Bool}
theorem Wk.zero {p q : Int} (h : Wk E kn 0 p q) : p = q := by cases h; rfl
theorem Wk.succ {k : Nat} {p q : Int} (h : Wk E kn (k + 1) p q) : ∃ i, kn p i = true ∧ Wk E kn k (nx E p i) q := by
  cases h with
  | cons h1 h2 => exact ⟨_, h1, h2⟩
theorem Wk.snoc {k : Nat} {p q i : Int} (h : Wk E kn k p q) (hk : kn q i = true) : Wk E kn (k + 1) p (nx E q i) := by
  induction h with
  | nil p => exact .cons hk (.nil _)
  | cons h1 h2 ih => exact .cons h1 (ih hk)
theorem Wk.unsnoc {k : Nat} {p r : Int} (h : Wk E kn (k + 1) p r) : ∃ q i, Wk E kn k p q ∧ kn q i = true ∧ nx E q i = r := by
  induction k generalizing p with
  | zero =>
    obtain ⟨i, h1, h2⟩ := h.succ
    exact ⟨p, i, .nil _, h1, h2.zero⟩
  | succ k ih =>
    obtain ⟨i, h1, h2⟩ := h.succ
    obtain ⟨q, j, h3, h4, h5⟩ := ih h2
    exact ⟨q, j, .cons h1 h3, h4, h5⟩
theorem Di.zero {p : Int} : Di E kn 0 p p := ⟨.nil _, fun j h => by omega⟩
theorem Di.uniq {j k : Nat} {p q : Int} (h : Di E kn j p q) (h' : Di E kn k p q) : j = k := by
  rcases Nat.lt_trichotomy j k with a | a | a
  · exact (h'.2 j a h.1).elim
  · exact a
  · exact (h.2 k a h'.1).elim
theorem Di.src {k : Nat} {p q : Int} (h : Di E kn (k + 1) p q) : ∃ i, kn p i = true ∧ Di E kn k (nx E p i) q := by
  obtain ⟨i, h1, h2⟩ := h.1.succ
  exact ⟨i, h1, h2, fun j hj hw => h.2 (j + 1) (by omega) (.cons h1 hw)⟩
theorem Di.dst {k : Nat} {p r : Int} (h : Di E kn (k + 1) p r) : ∃ q i, Di E kn k p q ∧ kn q i = true ∧ nx E q i = r := by
  obtain ⟨q, i, h1, h2, h3⟩ := h.1.unsnoc
  exact ⟨q, i, ⟨h1, fun j hj hw => h.2 (j + 1) (by omega) (h3 ▸ hw.snoc h2)⟩, h2, h3⟩
theorem Wk.di {k : Nat} {p q : Int} (h : Wk E kn k p q) : ∃ j, j ≤ k ∧ Di E kn j p q := by
  induction k using Nat.strongRecOn with
  | _ k ih =>
    by_cases hd : ∀ j, j < k → ¬ Wk E kn j p q
    · exact ⟨k, Nat.le_refl _, h, hd⟩
    · obtain ⟨j, hj, hw⟩ : ∃ j, j < k ∧ Wk E kn j p q := by
        apply Classical.byContradiction
        intro hn
        exact hd (fun j hj hw => hn ⟨j, hj, hw⟩)
      obtain ⟨i, hi, hd⟩ := ih j hj hw
      exact ⟨i, by omega, hd⟩
theorem Di.lt (hk : me_ E kn) {k : Nat} {p q : Int} (hq : 0 ≤ q ∧ q < E.length) (h : Di E kn k p q) : k < E.length := by
  cases k with
  | zero => omega
  | succ k =>
    have : ∃ f : Int → Int, ∀ p, (∃ j : Nat, f p = j ∧ Di E kn j p q) ∨ (f p = -1 ∧ ∀ j, ¬ Di E kn j p q) := by
      apply Classical.skolem (p := fun p v => (∃ j : Nat, v = (j : Int) ∧ Di E kn j p q) ∨ (v = -1 ∧ ∀ j, ¬ Di E kn j p q)) |>.1
      intro p
      by_cases hp : ∃ j, Di E kn j p q
      · obtain ⟨j, hj⟩ := hp
        exact ⟨j, .inl ⟨j, rfl, hj⟩⟩
      · exact ⟨-1, .inr ⟨rfl, fun j hj => hp ⟨j, hj⟩⟩⟩
    obtain ⟨f, hf⟩ := this
    have hmem : ∀ j : Nat, ∀ p, Di E kn j p q → (j : Int) ∈ (List.range E.length).map (fun x : Nat => f x) := by
      intro j p hd
      have hp : 0 ≤ p ∧ p < E.length := by
        cases j with
        | zero => rw [hd.1.zero]; exact hq
        | succ j => obtain ⟨i, h1, _⟩ := hd.src; have := hk p i h1; omega
      rw [List.mem_map]
      refine ⟨p.toNat, by simp; omega, ?_⟩
      rw [show ((p.toNat : Nat) : Int) = p by omega]
      rcases hf p with ⟨j', h1, h2⟩ | ⟨_, h2⟩
      · rw [h1, h2.uniq hd]
      · exact (h2 j hd).elim
    have := hy_ ((List.range E.length).map (fun x : Nat => f x)) (by
      intro v hv h0
      obtain ⟨x, hx, rfl⟩ := List.mem_map.1 hv
      rcases hf x with ⟨j, h1, h2⟩ | ⟨h1, _⟩
      · cases j with
        | zero => omega
        | succ j =>
          obtain ⟨i, h3, h4⟩ := h2.src
          have := hmem j _ h4
          rw [h1, show ((j + 1 : Nat) : Int) - 1 = j by omega]; exact this
      · omega) _ (hmem (k + 1) p h)
    simp at this; omega
end
def Fr_ (E : List (List Edge)) (kn : Int → Int → Bool) (p : Int) : Prop := ∃ i : Int, 0 ≤ i ∧ i < (ba_ E p).length ∧ kn p i = false
def Near (E : List (List Edge)) (kn : Int → Int → Bool) (p : Int) (k : Nat) (q : Int) : Prop :=
  (0 ≤ q ∧ q < E.length ∧ Fr_ E kn q ∧ Di E kn k p q) ∧ ∀ (k' : Nat) (q' : Int), 0 ≤ q' → q' < E.length → Fr_ E kn q' → Di E kn k' p q' → k < k' ∨ (k = k' ∧ q ≤ q')
def BackIs (E : List (List Edge)) (kn : Int → Int → Bool) (p r : Int) : Prop :=
  ((∀ (k : Nat) (q : Int), 0 ≤ q → q < E.length → Fr_ E kn q → ¬ Di E kn k p q) ∧ r = -1) ∨
  ∃ (k : Nat) (q : Int), Near E kn p (k + 1) q ∧ (kn p r = true ∧ Wk E kn k (nx E p r) q) ∧ ∀ i, kn p i = true → Wk E kn k (nx E p i) q → r ≤ i
theorem BackIs.uniq {E : List (List Edge)} {kn : Int → Int → Bool} {p r r' : Int} (h : BackIs E kn p r) (h' : BackIs E kn p r') : r = r' := by
  rcases h with ⟨h1, h2⟩ | ⟨k, q, ⟨⟨a1, a2, a3, a4⟩, a5⟩, b, c⟩ <;> rcases h' with ⟨h1', h2'⟩ | ⟨k', q', ⟨⟨a1', a2', a3', a4'⟩, a5'⟩, b', c'⟩
  · omega
  · exact (h1 _ q' a1' a2' a3' a4').elim
  · exact (h1' _ q a1 a2 a3 a4).elim
  · have h1 := a5 _ q' a1' a2' a3' a4'
    have h2 := a5' _ q a1 a2 a3 a4
    have hq : q = q' := by omega
    have hk : k = k' := by omega
    subst hq; subst hk
    have := c r' b'.1 b'.2
    have := c' r b.1 b.2
    omega
end Go.Proofs.Ytogfongmnkmegaa.Pad
