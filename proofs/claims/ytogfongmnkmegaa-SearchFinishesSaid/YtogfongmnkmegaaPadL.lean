/- Laws of the pure loops. -/
import Derived.Test.YtogfongmnkmegaaPadH
set_option linter.unusedVariables false
namespace Go.Proofs.Ytogfongmnkmegaa.Pad
open Go
theorem jx_ {σ : Type} {body : Nat → σ → Option σ} (I : Nat → σ → Prop) : ∀ (k i : Nat) (s : σ), I i s →
    (∀ j s, i ≤ j → j < i + k → I j s → ∃ s', body j s = some s' ∧ I (j + 1) s') → ∃ s', forS body k i s = some s' ∧ I (i + k) s'
  | 0, i, s, h, _ => ⟨s, rfl, h⟩
  | k + 1, i, s, h, st => by
    obtain ⟨s1, h1, h2⟩ := st i s (Nat.le_refl _) (by omega) h
    obtain ⟨s2, h3, h4⟩ := jx_ I k (i + 1) s1 h2 (fun j s a b c => st j s (by omega) (by omega) c)
    refine ⟨s2, ?_, by rwa [show i + (k + 1) = i + 1 + k by omega]⟩
    simp only [forS, h1]; exact h3
theorem jy_ {σ ρ : Type} {body : Nat → σ → Option (σ ⊕ ρ)} (I : Nat → σ → Prop) (E : ρ → Prop) : ∀ (k i : Nat) (s : σ), I i s →
    (∀ j s, i ≤ j → j < i + k → I j s → (∃ s', body j s = some (.inl s') ∧ I (j + 1) s') ∨ ∃ r, body j s = some (.inr r) ∧ E r) →
    (∃ s', forN body k i s = some (.inl s') ∧ I (i + k) s') ∨ ∃ r, forN body k i s = some (.inr r) ∧ E r
  | 0, i, s, h, _ => .inl ⟨s, rfl, h⟩
  | k + 1, i, s, h, st => by
    rcases st i s (Nat.le_refl _) (by omega) h with ⟨s1, h1, h2⟩ | ⟨r, h1, h2⟩
    · have := jy_ I E k (i + 1) s1 h2 (fun j s a b c => st j s (by omega) (by omega) c)
      rw [show i + (k + 1) = i + 1 + k by omega]
      simpa only [forN, h1] using this
    · exact .inr ⟨r, by simp only [forN, h1], h2⟩
theorem fw_ {σ ρ : Type} {body : σ → Option (σ ⊕ ρ)} {s s' : σ} (h : body s = some (.inl s')) : bw_ body s = bw_ body s' := by
  rw [id_, h]
theorem df_ {σ ρ : Type} {body : σ → Option (σ ⊕ ρ)} {s : σ} {r : ρ} (h : body s = some (.inr r)) : bw_ body s = some r := by
  rw [id_, h]
theorem cj_ {σ ρ : Type} {body : σ → Option (σ ⊕ ρ)} (I : Nat → σ → Prop) (E : ρ → Prop) : ∀ (n i : Nat) (s : σ), I i s →
    (∀ j s, i ≤ j → j < i + n → I j s → (∃ s', body s = some (.inl s') ∧ I (j + 1) s') ∨ ∃ r, body s = some (.inr r) ∧ E r) →
    (∀ s, I (i + n) s → ∃ r, body s = some (.inr r) ∧ E r) → ∃ r, bw_ body s = some r ∧ E r
  | 0, i, s, h, _, e => by
    obtain ⟨r, h1, h2⟩ := e s h
    exact ⟨r, df_ h1, h2⟩
  | n + 1, i, s, h, st, e => by
    rcases st i s (Nat.le_refl _) (by omega) h with ⟨s1, h1, h2⟩ | ⟨r, h1, h2⟩
    · rw [fw_ h1]
      exact cj_ I E n (i + 1) s1 h2 (fun j s a b c => st j s (by omega) (by omega) c) (fun s hs => e s (by rwa [show i + (n + 1) = i + 1 + n by omega]))
    · exact ⟨r, df_ h1, h2⟩
theorem de_ {α : Type} {l : List α} {i : Nat} (h : i < l.length) : at? l (i : Int) = some l[i] := by
  rw [at?_nat, List.getElem?_eq_getElem h]
theorem jo_ {α : Type} {l : List α} {i : Int} (h0 : 0 ≤ i) (h : i < l.length) : ∃ x, at? l i = some x ∧ l[i.toNat]? = some x := by
  have h1 : i.toNat < l.length := by omega
  refine ⟨l[i.toNat], ?_, List.getElem?_eq_getElem h1⟩
  unfold at?; rw [if_pos h0, List.getElem?_eq_getElem h1]
theorem el_ {α : Type} {l m : List α} (h : l.length + m.length ≤ 2147483648) : push? l m = some (l ++ m) := by
  unfold push?; rw [if_pos h]
theorem jv_ {α : Type} {k : Int} {z : α} (h : 0 ≤ k) (h' : k ≤ 2147483648) : mk? k z = some (List.replicate k.toNat z) := by
  unfold mk?; rw [if_pos ⟨h, h'⟩]
theorem lt_ {a b : Int} (h : b ≠ 0) : md a b = some (a.tmod b) := by
  unfold md; rw [if_neg h]
def Tot {α : Type} (x : Option α) (P : α → Prop) : Prop := ∃ a, x = some a ∧ P a
namespace Tot
theorem pure {α : Type} {a : α} {P : α → Prop} (h : P a) : Tot (some a) P := ⟨a, rfl, h⟩
theorem bind {α β : Type} {x : Option α} {f : α → Option β} {Q : β → Prop} (P : α → Prop) (h : Tot x P) (k : ∀ a, P a → Tot (f a) Q) : Tot (x.bind f) Q := by
  obtain ⟨a, rfl, h⟩ := h
  exact k a h
theorem eq {α β : Type} {x : Option α} {a : α} {f : α → Option β} {Q : β → Prop} (h : x = some a) (k : Tot (f a) Q) : Tot (x.bind f) Q := by
  subst h; exact k
theorem ite {α : Type} {c : Prop} [Decidable c] {x y : Option α} {P : α → Prop} (h : c → Tot x P) (h' : ¬c → Tot y P) : Tot (if c then x else y) P := by
  by_cases hc : c
  · rw [if_pos hc]; exact h hc
  · rw [if_neg hc]; exact h' hc
theorem mono {α : Type} {x : Option α} {P Q : α → Prop} (h : Tot x P) (k : ∀ a, P a → Q a) : Tot x Q := by
  obtain ⟨a, h1, h2⟩ := h
  exact ⟨a, h1, k a h2⟩
theorem forS {σ : Type} {body : Nat → σ → Option σ} {k : Nat} {s : σ} (I : Nat → σ → Prop) (h : I 0 s) (st : ∀ j s, j < k → I j s → Tot (body j s) (I (j + 1))) : Tot (Go.Proofs.Ytogfongmnkmegaa.Pad.forS body k 0 s) (I k) := by
  have := jx_ I k 0 s h (fun j s _ b c => st j s (by omega) c)
  rwa [Nat.zero_add] at this
theorem forN {σ ρ : Type} {body : Nat → σ → Option (σ ⊕ ρ)} {k : Nat} {s : σ} (I : Nat → σ → Prop) (E : ρ → Prop) (h : I 0 s)
    (st : ∀ j s, j < k → I j s → Tot (body j s) (Sum.elim (I (j + 1)) E)) : Tot (Go.Proofs.Ytogfongmnkmegaa.Pad.forN body k 0 s) (Sum.elim (I k) E) := by
  have := jy_ I E k 0 s h (fun j s _ b c => by
    obtain ⟨o, h1, h2⟩ := st j s (by omega) c
    cases o with
    | inl s' => exact .inl ⟨s', h1, h2⟩
    | inr r => exact .inr ⟨r, h1, h2⟩)
  rw [Nat.zero_add] at this
  rcases this with ⟨s', h1, h2⟩ | ⟨r, h1, h2⟩
  · exact ⟨_, h1, h2⟩
  · exact ⟨_, h1, h2⟩
theorem onL {σ ρ : Type} {o : σ ⊕ ρ} {k : σ → Option ρ} {I : σ → Prop} {E : ρ → Prop} {Q : ρ → Prop} (h : Sum.elim I E o) (a : ∀ s, I s → Tot (k s) Q) (b : ∀ r, E r → Q r) : Tot (Go.Proofs.Ytogfongmnkmegaa.Pad.onL o k) Q := by
  cases o with
  | inl s => exact a s h
  | inr r => exact ⟨r, rfl, b r h⟩
theorem at_ {α : Type} {l : List α} {i : Int} (h0 : 0 ≤ i) (h : i < l.length) : Tot (at? l i) (fun x => l[i.toNat]? = some x) := jo_ h0 h
end Tot
end Go.Proofs.Ytogfongmnkmegaa.Pad
