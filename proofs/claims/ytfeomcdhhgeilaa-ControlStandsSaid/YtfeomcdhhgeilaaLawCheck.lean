/- What Check says of a panel. -/
import Derived.Test.YtfeomcdhhgeilaaPadL
import Derived.Test.YtfeomcdhhgeilaaPadSP
set_option linter.unusedVariables false
namespace Go.Proofs.Ytfeomcdhhgeilaa.Pad
open Go

structure GoodGate (p : Panel) (g : Gate) : Prop where
  w0 : 1 ≤ g.Wait
  w1 : g.Wait ≤ 50
  n : g.When.length ≤ 8
  s : ∀ x ∈ g.When, 0 ≤ x.Sensor ∧ x.Sensor < p.Sensors ∧ 0 ≤ x.Value ∧ x.Value ≤ 9
structure GoodPanel (p : Panel) : Prop where
  s0 : 0 ≤ p.Sensors
  s1 : p.Sensors ≤ 12
  d : p.Doors.length ≤ 8
  st0 : 1 ≤ p.Stale
  st1 : p.Stale ≤ 50
  l0 : 1 ≤ p.Limit
  l1 : p.Limit ≤ 1000
  g : ∀ x ∈ p.Doors, GoodGate p x

theorem F43_eq (a b c : Int) : F43 a b c = some (decide (b ≤ a ∧ a ≤ c)) := by
  unfold F43
  by_cases h : b ≤ a <;> simp [h]
theorem F48_eq (a b c : Int) : F48 a b c = some (decide (b ≤ a ∧ a ≤ c)) := by
  unfold F48
  by_cases h : b ≤ a <;> simp [h]

/-- The reference's Check answers, and 0 only for a good panel. -/
theorem F15_law (p : Panel) : Tot (F15 p) (fun e => e = 0 → GoodPanel p) := by
  unfold F15
  simp only [F43_eq, Option.bind_some]
  refine Tot.bind (Sum.elim (fun _ => (0 ≤ p.Sensors ∧ p.Sensors ≤ 12) ∧ p.Doors.length ≤ 8 ∧ (1 ≤ p.Stale ∧ p.Stale ≤ 50) ∧ (1 ≤ p.Limit ∧ p.Limit ≤ 1000)) (fun e => e = 80)) ?_ ?_
  · refine Tot.ite (fun h => .pure rfl) fun h1 => Tot.ite (fun h => .pure rfl) fun h2 => Tot.ite (fun h => .pure rfl) fun h3 => Tot.ite (fun h => .pure rfl) fun h4 => .pure ?_
    simp only [Bool.not_eq_true', decide_eq_false_iff_not, Classical.not_not, decide_eq_true_eq] at h1 h2 h3 h4
    exact ⟨h1, by omega, h3, h4⟩
  intro o ho
  refine Tot.onL ho ?_ (by rintro r rfl h; cases h)
  rintro _ ⟨h1, h2, h3, h4⟩
  have hw : w64 (p.Sensors - 1) = p.Sensors - 1 := w64_eq (by omega) (by omega)
  rw [hw]
  refine Tot.bind _ (Tot.forN (fun i _ => ∀ j, j < i → ∀ x, p.Doors[j]? = some x → GoodGate p x) (fun r => r = 80) (fun j hj => by omega) ?_) ?_
  · intro j _ hj hI
    refine Tot.bind _ (Tot.atN hj) fun g hg => ?_
    refine Tot.bind (Sum.elim (fun _ => (1 ≤ g.Wait ∧ g.Wait ≤ 50) ∧ g.When.length ≤ 8) (fun e => e = .inr 80)) ?_ ?_
    · refine Tot.ite (fun h => .pure rfl) fun h1 => Tot.ite (fun h => .pure rfl) fun h2 => .pure ?_
      simp only [Bool.not_eq_true', decide_eq_false_iff_not, Classical.not_not, decide_eq_true_eq] at h1 h2
      exact ⟨h1, by omega⟩
    intro o ho
    refine Tot.onL ho ?_ (by rintro r rfl; rfl)
    rintro _ ⟨g1, g2⟩
    refine Tot.bind _ (Tot.forN (fun i _ => ∀ j, j < i → ∀ x, g.When[j]? = some x → 0 ≤ x.Sensor ∧ x.Sensor < p.Sensors ∧ 0 ≤ x.Value ∧ x.Value ≤ 9) (fun r => r = .inr 80) (fun j hj => by omega) ?_) ?_
    · intro q _ hq hJ
      refine Tot.bind _ (Tot.atN hq) fun x hx => ?_
      refine Tot.ite (fun h => .pure rfl) fun h1 => Tot.ite (fun h => .pure rfl) fun h2 => .pure ?_
      simp only [Bool.not_eq_true', decide_eq_false_iff_not, Classical.not_not] at h1 h2
      intro r hr y hy
      rcases Nat.lt_succ_iff_lt_or_eq.1 hr with h | rfl
      · exact hJ r h y hy
      · rw [hx] at hy; cases hy; exact ⟨h1.1, by omega, h2.1, h2.2⟩
    · intro o ho
      refine Tot.onL ho ?_ (by rintro r rfl; rfl)
      intro _ hs
      refine .pure ?_
      intro r hr y hy
      rcases Nat.lt_succ_iff_lt_or_eq.1 hr with h | rfl
      · exact hI r h y hy
      · rw [hg] at hy; cases hy
        refine ⟨g1.1, g1.2, g2, fun x hx => ?_⟩
        obtain ⟨q, hq, e⟩ := List.getElem_of_mem hx
        exact hs q hq x (by rw [List.getElem?_eq_getElem hq, e])
  · intro o ho
    refine Tot.onL ho ?_ (by rintro r rfl h; cases h)
    intro _ hs
    refine .pure fun _ => ⟨h1.1, h1.2, h2, h3.1, h3.2, h4.1, h4.2, fun x hx => ?_⟩
    obtain ⟨q, hq, e⟩ := List.getElem_of_mem hx
    exact hs q hq x (by rw [List.getElem?_eq_getElem hq, e])

/-- No literal of a good gate is bad. -/
theorem F50_all {l : List Sense} {b : Sense → Option Bool} (h : ∀ x ∈ l, b x = some false) : F50 l b = some false := by
  unfold F50 F68
  have := Tot.forN (body := fun i1 (s1 : Unit) => (at? l (i1 : Int)).bind fun x5 => (b x5).bind fun x6 => if x6 then (some (Sum.inr (i1 : Int))) else (some (Sum.inl ()))) (k := l.length) (s := ()) (fun _ _ => True) (fun _ => False) trivial (fun j _ hj _ => by
    refine Tot.bind _ (Tot.atN hj) fun x hx => ?_
    rw [h x (List.mem_of_getElem? hx)]
    exact .pure trivial)
  obtain ⟨o, h1, h2⟩ := this
  cases o with
  | inr r => exact h2.elim
  | inl u => rw [h1]; rfl
theorem F27_good {p : Panel} (h : GoodPanel p) : F27 p = some 0 := by
  have h0 := h.s0; have h1 := h.s1; have h2 := h.d
  have hw : w64 (p.Sensors - 1) = p.Sensors - 1 := w64_eq (by omega) (by omega)
  unfold F27
  simp only [F48_eq, Option.bind_some, h.s0, h.s1, h.st0, h.st1, h.l0, h.l1, and_self, decide_true, Bool.not_true, Bool.false_eq_true, if_false]
  rw [if_neg (by simp; omega)]
  simp only [Option.bind_some, onL]
  have : Tot (forN (σ := Unit) (ρ := Int) (fun i1 s1 => (at? p.Doors (i1 : Int)).bind fun x13 => if !decide (1 ≤ x13.Wait ∧ x13.Wait ≤ 50) then (some (Sum.inr 80)) else (if decide (8 < (x13.When.length : Int)) then (some (Sum.inr 80)) else
      ((F50 x13.When (fun x0_ => F49 x0_ p)).bind fun x15 => if x15 then (some (Sum.inr 80)) else (some (Sum.inl ()))))) p.Doors.length 0 ()) (Sum.elim (fun _ => True) (fun _ => False)) := by
    refine Tot.forN (fun _ _ => True) (fun _ => False) trivial (fun j _ hj _ => ?_)
    refine Tot.bind _ (Tot.atN hj) fun g hg => ?_
    have G := h.g g (List.mem_of_getElem? hg)
    have := G.n
    rw [if_neg (by simp [G.w0, G.w1]), if_neg (by simp; omega), F50_all]
    · exact .pure trivial
    · intro x hx
      have := G.s x hx
      unfold F49
      simp only [F48_eq, hw, Option.bind_some]
      have e1 : decide (0 ≤ x.Sensor ∧ x.Sensor ≤ p.Sensors - 1) = true := decide_eq_true (by omega)
      have e2 : decide (0 ≤ x.Value ∧ x.Value ≤ 9) = true := decide_eq_true (by omega)
      simp [e1, e2]
  obtain ⟨o, e1, e2⟩ := this
  cases o with
  | inr r => exact e2.elim
  | inl u => rw [e1]; rfl
end Go.Proofs.Ytfeomcdhhgeilaa.Pad
