/- What answers in fewer rounds answers the same: copies of the pure functions that the kernel can run. -/
import Derived.Test.YtogfongmnkmegaaPadM
import Derived.KernelRfl
set_option linter.unusedVariables false
namespace Go.Proofs.Ytogfongmnkmegaa.Pad
open Go
def Le {α : Type} (x y : Option α) : Prop := ∀ r, x = some r → y = some r
namespace Le
theorem refl {α : Type} (x : Option α) : Le x x := fun _ h => h
theorem bind {α β : Type} {x y : Option α} {f g : α → Option β} (h : Le x y) (k : ∀ a, Le (f a) (g a)) : Le (x.bind f) (y.bind g) := by
  intro r hr
  cases x with
  | none => cases hr
  | some a => rw [h a rfl]; exact k a r hr
theorem ite {α : Type} {c : Prop} [Decidable c] {x y x' y' : Option α} (h : Le x x') (k : Le y y') : Le (if c then x else y) (if c then x' else y') := by
  by_cases hc : c
  · rw [if_pos hc, if_pos hc]; exact h
  · rw [if_neg hc, if_neg hc]; exact k
theorem onL {σ ρ : Type} {o : σ ⊕ ρ} {f g : σ → Option ρ} (h : ∀ s, Le (f s) (g s)) : Le (Go.Proofs.Ytogfongmnkmegaa.Pad.onL o f) (Go.Proofs.Ytogfongmnkmegaa.Pad.onL o g) := by
  cases o with
  | inl s => exact h s
  | inr r => exact refl _
theorem forS {σ : Type} {f g : Nat → σ → Option σ} (h : ∀ i s, Le (f i s) (g i s)) : ∀ (k i : Nat) (s : σ), Le (Go.Proofs.Ytogfongmnkmegaa.Pad.forS f k i s) (Go.Proofs.Ytogfongmnkmegaa.Pad.forS g k i s)
  | 0, _, _ => refl _
  | k + 1, i, s => by
    intro r hr
    simp only [Go.Proofs.Ytogfongmnkmegaa.Pad.forS] at hr ⊢
    cases hf : f i s with
    | none => rw [hf] at hr; cases hr
    | some s' => rw [hf] at hr; rw [h i s s' hf]; exact forS h k (i + 1) s' r hr
theorem forN {σ ρ : Type} {f g : Nat → σ → Option (σ ⊕ ρ)} (h : ∀ i s, Le (f i s) (g i s)) : ∀ (k i : Nat) (s : σ), Le (Go.Proofs.Ytogfongmnkmegaa.Pad.forN f k i s) (Go.Proofs.Ytogfongmnkmegaa.Pad.forN g k i s)
  | 0, _, _ => refl _
  | k + 1, i, s => by
    intro r hr
    simp only [Go.Proofs.Ytogfongmnkmegaa.Pad.forN] at hr ⊢
    cases hf : f i s with
    | none => rw [hf] at hr; cases hr
    | some o =>
      rw [hf] at hr; rw [h i s o hf]
      cases o with
      | inl s' => exact forN h k (i + 1) s' r hr
      | inr r' => exact hr
theorem while_ {σ ρ : Type} {f g : σ → Option (σ ⊕ ρ)} (h : ∀ s, Le (f s) (g s)) (k : Nat) (s : σ) : Le (ea_ f k s) (bw_ g s) := by
  intro r hr
  refine ed_.2 ⟨k, ?_⟩
  induction k generalizing s with
  | zero => simp [ea_] at hr
  | succ k ih =>
    unfold ea_ at hr ⊢
    cases hf : f s with
    | none => rw [hf] at hr; cases hr
    | some o =>
      rw [hf] at hr; rw [h s o hf]
      cases o with
      | inl s' => exact ih s' hr
      | inr r' => exact hr
end Le
end Go.Proofs.Ytogfongmnkmegaa.Pad
