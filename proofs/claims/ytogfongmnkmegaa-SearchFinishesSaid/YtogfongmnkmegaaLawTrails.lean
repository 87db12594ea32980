/- SearchTrails. -/
import Derived.Test.YtogfongmnkmegaaLawRun
import Derived.Test.YtogfongmnkmegaaLawSeaWorks
set_option linter.unusedVariables false
namespace Go.Proofs.Ytogfongmnkmegaa.Pad
open Go Go.Proofs
def ErrIs (g : Graph) (d : List Int) (m : Mind) (most e : Int) : Prop :=
  (e = 0 ∧ GoodMap g d ∧ MindOk m ∧ 0 ≤ most ∧ most ≤ 2000) ∨ (e = 60 ∧ ¬ GoodMap g d) ∨ (e = 1 ∧ GoodMap g d ∧ ¬ (MindOk m ∧ 0 ≤ most ∧ most ≤ 2000))
theorem ErrIs.uniq {g : Graph} {d : List Int} {m : Mind} {most e e' : Int} (h : ErrIs g d m most e) (h' : ErrIs g d m most e') : e = e' := by
  rcases h with ⟨h1, h2, h3⟩ | ⟨h1, h2⟩ | ⟨h1, h2, h3⟩ <;> rcases h' with ⟨h1', h2', h3'⟩ | ⟨h1', h2'⟩ | ⟨h1', h2', h3'⟩ <;> first | omega | (exact (h2' h2).elim) | (exact (h2 h2').elim) | exact (h3' h3).elim | exact (h3 h3').elim
theorem ErrIs.ok {g : Graph} {d : List Int} {m : Mind} {most : Int} (h : ErrIs g d m most 0) : GoodMap g d ∧ MindOk m ∧ 0 ≤ most ∧ most ≤ 2000 := by
  rcases h with ⟨_, h⟩ | ⟨h, _⟩ | ⟨h, _⟩
  · exact h
  · omega
  · omega
theorem nd_ (g : Graph) (d : List Int) (m : Mind) (most : Int) : Tot (F45 g d m most) (fun x => x.1 = ⟨g.Edges, d⟩ ∧ ErrIs g d m most x.2) := by
  unfold F45
  refine Tot.bind _ (nc_ g d) ?_
  rintro ⟨v, e⟩ ⟨rfl, h⟩
  simp only at h ⊢
  rcases h with ⟨rfl, h⟩ | ⟨rfl, h⟩
  · rw [if_neg (by simp), iz_, Option.bind_some]
    refine Tot.ite (fun h1 => Tot.pure ⟨rfl, .inr (.inr ⟨rfl, h, fun hm => ?_⟩)⟩) (fun h1 => ?_)
    · have := hm.1.m0; have := hm.1.m1; simp at h1; omega
    rw [iz_, Option.bind_some]
    refine Tot.ite (fun h2 => Tot.pure ⟨rfl, .inr (.inr ⟨rfl, h, fun hm => ?_⟩)⟩) (fun h2 => ?_)
    · have := hm.1.t0; have := hm.1.t1; simp at h2; omega
    rw [iz_, Option.bind_some]
    refine Tot.ite (fun h3 => Tot.pure ⟨rfl, .inr (.inr ⟨rfl, h, fun hm => ?_⟩)⟩) (fun h3 => ?_)
    · simp at h3; omega
    · simp at h1 h2 h3
      exact Tot.pure ⟨rfl, .inl ⟨rfl, h, ⟨by omega, by omega, by omega, by omega⟩, by omega, by omega⟩⟩
  · rw [if_pos (by simp)]
    exact Tot.pure ⟨rfl, .inr (.inl ⟨rfl, h⟩)⟩
def cm_ (E : List (List Edge)) : Nat := (E.map List.length).sum
theorem kp_ (g : Graph) : Tot (bw_ (σ := (Int × Int)) (ρ := (Int × Int)) (fun s1 =>
 ((if decide (s1.2 < (g.Edges.length : Int)) then
 (if decide (s1.2 < 400) then
 (some (Sum.inl ()))
 else
 (some (Sum.inr (Sum.inr (s1.1, s1.2)))))
 else
 (some (Sum.inr (Sum.inr (s1.1, s1.2))))) : Option (Unit ⊕ _)).bind fun ov7 => onL ov7 fun v7 =>
 (at? g.Edges s1.2).bind fun x7 =>
 some (Sum.inl (w64 (s1.1 + (x7.length : Int)), w64 (s1.2 + 1)))) (0, 0)) (fun r => (∀ r ∈ g.Edges, r.length ≤ 100) → g.Edges.length ≤ 300 → r.1 = cm_ g.Edges) := by
  refine cj_ (fun i (s : Int × Int) => s.2 = i ∧ i ≤ 400 ∧ i ≤ g.Edges.length ∧ ((∀ r ∈ g.Edges, r.length ≤ 100) → g.Edges.length ≤ 300 → s.1 = cm_ (g.Edges.take i) ∧ s.1 ≤ 100 * i)) _ (Nat.min g.Edges.length 400) 0 (0, 0) ⟨rfl, by omega, by omega, fun _ _ => ⟨rfl, by simp⟩⟩ ?_ ?_
  · rintro i ⟨s1, s2⟩ _ hi ⟨h1, h2, h3, h4⟩
    simp only at h1 h4 ⊢
    subst h1
    have hi1 : i < g.Edges.length := by have : Nat.min g.Edges.length 400 ≤ g.Edges.length := Nat.min_le_left _ _; omega
    have hi2 : i < 400 := by have : Nat.min g.Edges.length 400 ≤ 400 := Nat.min_le_right _ _; omega
    left
    rw [if_pos (by simp; omega), if_pos (by simp; omega)]
    simp only [Option.bind_some, onL]
    rw [de_ hi1, Option.bind_some]
    refine ⟨_, rfl, by simp only; rw [ci_ (by omega) (by omega)]; omega, by omega, by omega, ?_⟩
    intro hr hl
    obtain ⟨a, b⟩ := h4 hr hl
    have hrow := hr _ (List.getElem_mem hi1)
    simp only
    rw [ci_ (by omega) (by omega)]
    refine ⟨?_, by omega⟩
    unfold cm_ at a ⊢
    rw [List.take_add_one, List.getElem?_eq_getElem hi1, Option.toList_some, List.map_append, List.sum_append, a]
    simp
  · rintro ⟨s1, s2⟩ ⟨h1, h2, h3, h4⟩
    simp only at h1 h4 ⊢
    refine ⟨(s1, s2), ?_, ?_⟩
    · by_cases hl : g.Edges.length ≤ 400
      · have : Nat.min g.Edges.length 400 = g.Edges.length := Nat.min_eq_left hl
        rw [if_neg (by simp; omega)]; rfl
      · have : Nat.min g.Edges.length 400 = 400 := Nat.min_eq_right (by omega)
        rw [if_pos (by simp; omega), if_neg (by simp; omega)]; rfl
    · intro hr hl
      have : Nat.min g.Edges.length 400 = g.Edges.length := Nat.min_eq_left (by omega)
      rw [(h4 hr hl).1, Nat.zero_add, this, List.take_length]
theorem ng_ (g : Graph) : Tot (F15 g) (fun b => b = false → (∀ r ∈ g.Edges, r.length ≤ 100) → g.Edges.length ≤ 300 → g.Positions.length ≤ 300 → cm_ g.Edges ≤ 40 ∧ g.Positions.length ≤ 20) := by
  unfold F15
  refine Tot.bind _ (kp_ g) ?_
  rintro ⟨s1, s2⟩ hs
  simp only at hs ⊢
  have key : ∀ b, (b = false → s1 ≤ 40) → (b = false → ((g.Positions.length : Int) ≤ 20 ∨ 300 < (g.Positions.length : Int))) → (b = false → (∀ r ∈ g.Edges, r.length ≤ 100) → g.Edges.length ≤ 300 → g.Positions.length ≤ 300 → cm_ g.Edges ≤ 40 ∧ g.Positions.length ≤ 20) := by
    intro b h1 h2 hb hr hl hp
    have := hs hr hl
    have := h1 hb
    have := h2 hb
    omega
  refine Tot.ite (fun h1 => Tot.ite (fun h2 => Tot.pure ?_) (fun h2 => Tot.ite (fun h3 => Tot.pure ?_) (fun h3 => Tot.pure ?_))) (fun h1 => Tot.ite (fun h3 => Tot.pure ?_) (fun h3 => Tot.pure ?_))
  · intro h; cases h
  · intro h; cases h
  · exact key _ (fun _ => by simpa using h3) (fun _ => .inr (by simpa using h2))
  · intro h; cases h
  · exact key _ (fun _ => by simpa using h3) (fun _ => .inl (by simpa using h1))
end Go.Proofs.Ytogfongmnkmegaa.Pad
