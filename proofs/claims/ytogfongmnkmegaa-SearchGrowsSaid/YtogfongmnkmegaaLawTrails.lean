/- SearchTrails. -/
import Derived.Test.YtogfongmnkmegaaLawRun
import Derived.Test.YtogfongmnkmegaaLawSeaWorks
set_option linter.unusedVariables false
namespace Go.Proofs.Ytogfongmnkmegaa.Pad
open Go Go.Proofs

def ErrIs (g : Graph) (d : List Int) (m : Mind) (most e : Int) : Prop :=
  (e = 0 ∧ GoodMap g d ∧ MindOk m ∧ 0 ≤ most ∧ most ≤ 2000) ∨ (e = 60 ∧ ¬ GoodMap g d) ∨ (e = 1 ∧ GoodMap g d ∧ ¬ (MindOk m ∧ 0 ≤ most ∧ most ≤ 2000))
theorem ErrIs.uniq {g : Graph} {d : List Int} {m : Mind} {most e e' : Int} (h : ErrIs g d m most e) (h' : ErrIs g d m most e') : e = e' := by
  rcases h with ⟨h1, h2, h3⟩ | ⟨h1, h2⟩ | ⟨h1, h2, h3⟩ <;> rcases h' with ⟨h1', h2', h3'⟩ | ⟨h1', h2'⟩ | ⟨h1', h2', h3'⟩ <;> first | omega | (exact (h2' h2).elim) | (exact (h2 h2').elim) | exact (h3' h3).elim | exact (h3 h3').elim
theorem ErrIs.ok {g : Graph} {d : List Int} {m : Mind} {most : Int} (h : ErrIs g d m most 0) : GoodMap g d ∧ MindOk m ∧ 0 ≤ most ∧ most ≤ 2000 := by
  rcases h with ⟨_, h⟩ | ⟨h, _⟩ | ⟨h, _⟩
  · exact h
  · omega
  · omega
theorem F45_spec (g : Graph) (d : List Int) (m : Mind) (most : Int) : Tot (F45 g d m most) (fun x => x.1 = ⟨g.Edges, d⟩ ∧ ErrIs g d m most x.2) := by
  unfold F45
  refine Tot.bind _ (F57_spec g d) ?_
  rintro ⟨v, e⟩ ⟨rfl, h⟩
  simp only at h ⊢
  rcases h with ⟨rfl, h⟩ | ⟨rfl, h⟩
  · rw [if_neg (by simp), F61_eq, Option.bind_some]
    refine Tot.ite (fun h1 => Tot.pure ⟨rfl, .inr (.inr ⟨rfl, h, fun hm => ?_⟩)⟩) (fun h1 => ?_)
    · have := hm.1.m0; have := hm.1.m1; simp at h1; omega
    rw [F61_eq, Option.bind_some]
    refine Tot.ite (fun h2 => Tot.pure ⟨rfl, .inr (.inr ⟨rfl, h, fun hm => ?_⟩)⟩) (fun h2 => ?_)
    · have := hm.1.t0; have := hm.1.t1; simp at h2; omega
    rw [F61_eq, Option.bind_some]
    refine Tot.ite (fun h3 => Tot.pure ⟨rfl, .inr (.inr ⟨rfl, h, fun hm => ?_⟩)⟩) (fun h3 => ?_)
    · simp at h3; omega
    · simp at h1 h2 h3
      exact Tot.pure ⟨rfl, .inl ⟨rfl, h, ⟨by omega, by omega, by omega, by omega⟩, by omega, by omega⟩⟩
  · rw [if_pos (by simp)]
    exact Tot.pure ⟨rfl, .inr (.inl ⟨rfl, h⟩)⟩
theorem F47_spec (g : Graph) (d : List Int) (m : Mind) (most : Int) : Tot (F47 g d m most) (fun x => ErrIs g d m most x) := by
  unfold F47
  refine Tot.bind _ (F21_spec g d) ?_
  rintro e h
  rcases h with ⟨rfl, h⟩ | ⟨rfl, h⟩
  · rw [if_neg (by simp), F49_eq, Option.bind_some]
    refine Tot.ite (fun h1 => Tot.pure (.inr (.inr ⟨rfl, h, fun hm => ?_⟩))) (fun h1 => ?_)
    · have := hm.1.m0; have := hm.1.m1; simp at h1; omega
    rw [F49_eq, Option.bind_some]
    refine Tot.ite (fun h2 => Tot.pure (.inr (.inr ⟨rfl, h, fun hm => ?_⟩))) (fun h2 => ?_)
    · have := hm.1.t0; have := hm.1.t1; simp at h2; omega
    rw [F49_eq, Option.bind_some]
    refine Tot.ite (fun h3 => Tot.pure (.inr (.inr ⟨rfl, h, fun hm => ?_⟩))) (fun h3 => ?_)
    · simp at h3; omega
    · simp at h1 h2 h3
      exact Tot.pure (.inl ⟨rfl, h, ⟨by omega, by omega, by omega, by omega⟩, by omega, by omega⟩)
  · rw [if_pos (by simp)]
    exact Tot.pure (.inr (.inl ⟨rfl, h⟩))
theorem F20_self (l : List Int) : F20 l l = some true := by
  unfold F20
  rw [if_neg (by simp)]
  have := Tot.forN (σ := Unit) (ρ := Bool) (k := l.length) (s := ()) (body := fun i1 s1 =>
     (at? l (i1 : Int)).bind fun x7 =>
     (at? l (i1 : Int)).bind fun x8 =>
     if x7 != x8 then
     (some (Sum.inr false))
     else
     (some (Sum.inl ()))) (fun _ _ => True) (fun _ => False) trivial (by
      intro j s hj _
      rw [at?_lt hj, Option.bind_some, Option.bind_some, if_neg (by simp)]
      exact Tot.pure trivial)
  obtain ⟨o, h1, h2⟩ := this
  cases o with
  | inl s => refine Eq.trans (congrArg (fun o => Option.bind o _) h1) rfl
  | inr r => exact h2.elim
def sumLen (E : List (List Edge)) : Nat := (E.map List.length).sum
theorem large_loop (g : Graph) : Tot (whileO (σ := (Int × Int)) (ρ := (Int × Int)) (fun s1 =>
 ((if decide (s1.2 < (g.Edges.length : Int)) then
 (if decide (s1.2 < 400) then
 (some (Sum.inl ()))
 else
 (some (Sum.inr (Sum.inr (s1.1, s1.2)))))
 else
 (some (Sum.inr (Sum.inr (s1.1, s1.2))))) : Option (Unit ⊕ _)).bind fun ov7 => onL ov7 fun v7 =>
 (at? g.Edges s1.2).bind fun x7 =>
 some (Sum.inl (w64 (s1.1 + (x7.length : Int)), w64 (s1.2 + 1)))) (0, 0)) (fun r => (∀ r ∈ g.Edges, r.length ≤ 100) → g.Edges.length ≤ 300 → r.1 = sumLen g.Edges) := by
  refine whileO_inv (fun i (s : Int × Int) => s.2 = i ∧ i ≤ 400 ∧ i ≤ g.Edges.length ∧ ((∀ r ∈ g.Edges, r.length ≤ 100) → g.Edges.length ≤ 300 → s.1 = sumLen (g.Edges.take i) ∧ s.1 ≤ 100 * i)) _ (Nat.min g.Edges.length 400) 0 (0, 0) ⟨rfl, by omega, by omega, fun _ _ => ⟨rfl, by simp⟩⟩ ?_ ?_
  · rintro i ⟨s1, s2⟩ _ hi ⟨h1, h2, h3, h4⟩
    simp only at h1 h4 ⊢
    subst h1
    have hi1 : i < g.Edges.length := by have : Nat.min g.Edges.length 400 ≤ g.Edges.length := Nat.min_le_left _ _; omega
    have hi2 : i < 400 := by have : Nat.min g.Edges.length 400 ≤ 400 := Nat.min_le_right _ _; omega
    left
    rw [if_pos (by simp; omega), if_pos (by simp; omega)]
    simp only [Option.bind_some, onL]
    rw [at?_lt hi1, Option.bind_some]
    refine ⟨_, rfl, by simp only; rw [w64_eq (by omega) (by omega)]; omega, by omega, by omega, ?_⟩
    intro hr hl
    obtain ⟨a, b⟩ := h4 hr hl
    have hrow := hr _ (List.getElem_mem hi1)
    simp only
    rw [w64_eq (by omega) (by omega)]
    refine ⟨?_, by omega⟩
    unfold sumLen at a ⊢
    rw [List.take_add_one, List.getElem?_eq_getElem hi1, Option.toList_some, List.map_append, List.sum_append, a]
    simp
  · rintro ⟨s1, s2⟩ ⟨h1, h2, h3, h4⟩
    simp only at h1 h4 ⊢
    refine ⟨(s1, s2), ?_, ?_⟩
    · by_cases hl : g.Edges.length ≤ 400
      · have : Nat.min g.Edges.length 400 = g.Edges.length := Nat.min_eq_left hl
        rw [if_neg (by simp; omega)]; rfl
      · have : Nat.min g.Edges.length 400 = 400 := Nat.min_eq_right (by omega)
        rw [if_pos (by simp; omega), if_neg (by simp; omega)]; rfl
    · intro hr hl
      have : Nat.min g.Edges.length 400 = g.Edges.length := Nat.min_eq_left (by omega)
      rw [(h4 hr hl).1, Nat.zero_add, this, List.take_length]
theorem F15_spec (g : Graph) : Tot (F15 g) (fun b => b = false → (∀ r ∈ g.Edges, r.length ≤ 100) → g.Edges.length ≤ 300 → g.Positions.length ≤ 300 → sumLen g.Edges ≤ 40 ∧ g.Positions.length ≤ 20) := by
  unfold F15
  refine Tot.bind _ (large_loop g) ?_
  rintro ⟨s1, s2⟩ hs
  simp only at hs ⊢
  have key : ∀ b, (b = false → s1 ≤ 40) → (b = false → ((g.Positions.length : Int) ≤ 20 ∨ 300 < (g.Positions.length : Int))) → (b = false → (∀ r ∈ g.Edges, r.length ≤ 100) → g.Edges.length ≤ 300 → g.Positions.length ≤ 300 → sumLen g.Edges ≤ 40 ∧ g.Positions.length ≤ 20) := by
    intro b h1 h2 hb hr hl hp
    have := hs hr hl
    have := h1 hb
    have := h2 hb
    omega
  refine Tot.ite (fun h1 => Tot.ite (fun h2 => Tot.pure ?_) (fun h2 => Tot.ite (fun h3 => Tot.pure ?_) (fun h3 => Tot.pure ?_))) (fun h1 => Tot.ite (fun h3 => Tot.pure ?_) (fun h3 => Tot.pure ?_))
  · intro h; cases h
  · intro h; cases h
  · exact key _ (fun _ => by simpa using h3) (fun _ => .inr (by simpa using h2))
  · intro h; cases h
  · exact key _ (fun _ => by simpa using h3) (fun _ => .inl (by simpa using h1))
theorem F16_eq (n : Int) : F16 n = some (decide (120 < n ∧ n ≤ 2000)) := by
  unfold F16
  by_cases h : 120 < n <;> simp [h]
/-- Both searches. -/
theorem F18_F19 (g : Graph) (d : List Int) (m : Mind) (most : Int) : ∃ r, F18 g d m most = some r ∧ F19 g d m most = some r := by
  unfold F18 F19
  obtain ⟨⟨v, e⟩, h1, h2, h3⟩ := F45_spec g d m most
  obtain ⟨e', h4, h5⟩ := F47_spec g d m most
  simp only at h2 h3
  have := h3.uniq h5
  subst this; subst h2
  rw [h1, h4, Option.bind_some, Option.bind_some]
  by_cases he : e = 0
  · subst he
    obtain ⟨a, b, c, c'⟩ := h3.ok
    obtain ⟨tr, p, M, _, h6, h7, _⟩ := search_both a b c c'
    simp only
    rw [if_neg (by simp), if_neg (by simp), h6, h7]
    exact ⟨_, rfl, rfl⟩
  · rw [if_pos (by simpa using he), if_pos (by simpa using he)]
    exact ⟨_, rfl, rfl⟩
theorem F3_law (g : Graph) (d : List Int) (r : Law06_Run) : F3 g d r = some true := by
  unfold F3
  obtain ⟨b, hb, _⟩ := F15_spec g
  rw [hb, Option.bind_some, F17_eq]
  cases b with
  | true => rfl
  | false =>
    simp only [Bool.false_eq_true, if_false]
    rw [F16_eq, Option.bind_some]
    by_cases h : 120 < r.Most ∧ r.Most ≤ 2000
    · rw [if_pos (by simpa using h)]; rfl
    · rw [if_neg (by simpa using h)]
      simp only [Option.bind_some, onL]
      obtain ⟨x, h1, h2⟩ := F18_F19 g d r.Mind r.Most
      rw [h1, h2, Option.bind_some, Option.bind_some, if_pos (by simp), if_pos (by simp), F20_self]
      rfl
end Go.Proofs.Ytogfongmnkmegaa.Pad
