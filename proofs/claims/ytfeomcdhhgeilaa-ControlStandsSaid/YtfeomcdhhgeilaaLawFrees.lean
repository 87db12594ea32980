/- What Check and Frees answer, for every panel. -/
import Derived.Test.YtfeomcdhhgeilaaLawDoor
set_option linter.unusedVariables false
set_option linter.unusedSimpArgs false
namespace Go.Proofs.Ytfeomcdhhgeilaa.Pad
open Go

theorem F27_law (p : Panel) : Tot (F27 p) (fun e => e = 0 → GoodPanel p) := by
  unfold F27
  simp only [F48_eq, Option.bind_some]
  refine Tot.bind (Sum.elim (fun _ => (0 ≤ p.Sensors ∧ p.Sensors ≤ 12) ∧ p.Doors.length ≤ 8 ∧ (1 ≤ p.Stale ∧ p.Stale ≤ 50) ∧ (1 ≤ p.Limit ∧ p.Limit ≤ 1000)) (fun e => e = 80)) ?_ ?_
  · refine Tot.ite (fun h => .pure rfl) fun h1 => Tot.ite (fun h => .pure rfl) fun h2 => Tot.ite (fun h => .pure rfl) fun h3 => Tot.ite (fun h => .pure rfl) fun h4 => .pure ?_
    simp only [Bool.not_eq_true', decide_eq_false_iff_not, Classical.not_not, decide_eq_true_eq] at h1 h2 h3 h4
    exact ⟨h1, by omega, h3, h4⟩
  intro o ho
  refine Tot.onL ho ?_ (by rintro r rfl h; cases h)
  rintro _ ⟨h1, h2, h3, h4⟩
  have hw : w64 (p.Sensors - 1) = p.Sensors - 1 := w64_eq (by omega) (by omega)
  refine Tot.bind _ (Tot.forN (fun i _ => ∀ j, j < i → ∀ x, p.Doors[j]? = some x → GoodGate p x) (fun r => r = 80) (fun j hj => by omega) ?_) ?_
  · intro j _ hj hI
    refine Tot.bind _ (Tot.atN hj) fun g hg => ?_
    refine Tot.ite (fun h => .pure rfl) fun h1' => Tot.ite (fun h => .pure rfl) fun h2' => ?_
    refine Tot.eq (F50_eq (c := fun x => !(decide (0 ≤ x.Sensor ∧ x.Sensor ≤ p.Sensors - 1) && decide (0 ≤ x.Value ∧ x.Value ≤ 9))) fun x hx => ?_) ?_
    · unfold F49
      simp only [F48_eq, hw, Option.bind_some]
      by_cases hh : 0 ≤ x.Sensor ∧ x.Sensor ≤ p.Sensors - 1 <;> simp [hh]
    refine Tot.ite (fun h => .pure rfl) fun h3' => .pure ?_
    simp only [Bool.not_eq_true', decide_eq_false_iff_not, Classical.not_not, decide_eq_true_eq] at h1' h2'
    intro r hr y hy
    rcases Nat.lt_succ_iff_lt_or_eq.1 hr with h | rfl
    · exact hI r h y hy
    · rw [hg] at hy; cases hy
      refine ⟨h1'.1, h1'.2, by omega, fun x hx => ?_⟩
      have : (!(decide (0 ≤ x.Sensor ∧ x.Sensor ≤ p.Sensors - 1) && decide (0 ≤ x.Value ∧ x.Value ≤ 9))) = false := by
        cases hb : (!(decide (0 ≤ x.Sensor ∧ x.Sensor ≤ p.Sensors - 1) && decide (0 ≤ x.Value ∧ x.Value ≤ 9))) with
        | false => rfl
        | true => exact absurd (List.any_eq_true.2 ⟨x, hx, hb⟩) h3'
      simp only [Bool.not_eq_false', Bool.and_eq_true, decide_eq_true_eq] at this
      exact ⟨this.1.1, by omega, this.2.1, this.2.2⟩
  · intro o ho
    refine Tot.onL ho ?_ (by rintro r rfl h; cases h)
    intro _ hs
    refine .pure fun _ => ⟨h1.1, h1.2, h2, h3.1, h3.2, h4.1, h4.2, fun x hx => ?_⟩
    obtain ⟨q, hq, e⟩ := List.getElem_of_mem hx
    exact hs q hq x (by rw [List.getElem?_eq_getElem hq, e])

/-- What Frees answers: m is the longest Wait of a door with a When. -/
structure FreesIs (p : Panel) (m f : Int) : Prop where
  f : f = if m = 0 then 0 else p.Limit + m - 1
  m0 : 0 ≤ m
  m1 : m ≤ 50
  all : ∀ g ∈ p.Doors, g.When ≠ [] → g.Wait ≤ m
  some_ : m = 0 ∨ ∃ g ∈ p.Doors, g.When ≠ [] ∧ g.Wait = m
theorem F47_law {p : Panel} (hp : GoodPanel p) : Tot (F47 p) (fun f => ∃ m, FreesIs p m f) := by
  have a := hp.l0; have b := hp.l1
  unfold F47
  refine Tot.bind _ (Tot.forS (fun i m => 0 ≤ m ∧ m ≤ 50 ∧ (∀ (j : Nat) g, j < i → p.Doors[j]? = some g → g.When ≠ [] → g.Wait ≤ m) ∧ (m = 0 ∨ ∃ g ∈ p.Doors, g.When ≠ [] ∧ g.Wait = m)) ⟨by decide, by decide, fun j g hj => by omega, .inl rfl⟩ ?_) ?_
  · rintro i m hi ⟨h0, h1, h2, h3⟩
    refine Tot.bind _ (Tot.atN hi) fun g hg => ?_
    have G := hp.g g (List.mem_of_getElem? hg)
    have g0 := G.w0; have g1 := G.w1
    refine Tot.ite (fun h => .pure ?_) fun h => .pure ⟨h0, h1, fun j g' hj hg' hw => ?_, h3⟩
    · rw [maxI_eq]
      have hne : g.When ≠ [] := by
        intro e; rw [e] at h; simp at h
      refine ⟨by omega, by omega, fun j g' hj hg' hw => ?_, ?_⟩
      · rcases Nat.lt_succ_iff_lt_or_eq.1 hj with h' | rfl
        · have := h2 j g' h' hg' hw; omega
        · rw [hg] at hg'; cases hg'; omega
      · by_cases hc : m ≤ g.Wait
        · exact .inr ⟨g, List.mem_of_getElem? hg, hne, by omega⟩
        · rcases h3 with h3 | ⟨g', q1, q2, q3⟩
          · omega
          · exact .inr ⟨g', q1, q2, by omega⟩
    · rcases Nat.lt_succ_iff_lt_or_eq.1 hj with h' | rfl
      · exact h2 j g' h' hg' hw
      · rw [hg] at hg'; cases hg'
        exfalso; apply h
        have : 0 < g.When.length := List.length_pos_iff.2 hw
        simpa using this
  · rintro m ⟨h0, h1, h2, h3⟩
    have all : ∀ g ∈ p.Doors, g.When ≠ [] → g.Wait ≤ m := by
      intro g hg hw
      obtain ⟨q, hq, e⟩ := List.getElem_of_mem hg
      exact h2 q g hq (by rw [List.getElem?_eq_getElem hq, e]) hw
    refine Tot.ite (fun h => .pure ⟨m, ?_, h0, h1, all, h3⟩) fun h => .pure ⟨m, ?_, h0, h1, all, h3⟩
    · have : m = 0 := by simpa using h
      rw [if_pos this]
    · have : m ≠ 0 := by simpa using h
      have e1 : w64 (p.Limit + m) = p.Limit + m := w64_eq (by omega) (by omega)
      rw [if_neg this, e1, w64_eq (by omega) (by omega)]
theorem F21_law (p : Panel) : Tot (F21 p) (fun r => r.2 = 0 → GoodPanel p ∧ ∃ m, FreesIs p m r.1) := by
  unfold F21
  refine Tot.bind _ (F27_law p) fun e he => ?_
  refine Tot.ite (fun h => .pure fun h' => by simp at h; exact absurd h' h) fun h => ?_
  have hp := he (by simpa using h)
  exact Tot.bind _ (F47_law hp) fun f hf => .pure fun _ => ⟨hp, hf⟩

/-- No door is shut from the freeing tick on. -/
theorem sh_free {p : Panel} (hp : GoodPanel p) {m f : Int} (hF : FreesIs p m f) {l : List Signal} {d : Nat} {g : Gate} (hd : p.Doors[d]? = some g) {t : Nat} (ht : f ≤ (t : Int)) : sh p l d g (t + 1) = false := by
  have G := hp.g g (List.mem_of_getElem? hd)
  have g0 := G.w0; have m0 := hF.m0; have L0 := hp.l0
  suffices h : lf p l d g (t + 1) ≤ 0 by
    unfold sh
    rw [decide_eq_false (by omega)]; simp
  by_cases hw : g.When = []
  · have all : ∀ t, lf p l d g t = 0 := by
      intro t
      induction t with
      | zero => rfl
      | succ t ih =>
        unfold lf nextL hears says dec staleB failsB
        rw [hw, ih]
        simp
        cases pw p l t <;> cases hasL l t 3 d <;> simp
        try decide
    rw [all]; exact Int.le_refl _
  · have wm := hF.all g (List.mem_of_getElem? hd) hw
    have hm : m ≠ 0 := by omega
    have ef := hF.f
    rw [if_neg hm] at ef
    have key : ∀ k : Nat, lf p l d g (p.Limit.toNat + k) ≤ max 0 (g.Wait - k) := by
      intro k
      induction k with
      | zero =>
        have := lf_le (p := p) (l := l) (d := d) (g := g) (by omega) (p.Limit.toNat + 0)
        omega
      | succ k ih =>
        show lf p l d g (p.Limit.toNat + k + 1) ≤ _
        unfold lf nextL hears says dec
        rw [if_pos (show p.Limit ≤ ((p.Limit.toNat + k : Nat) : Int) by omega)]
        have := lf_le (p := p) (l := l) (d := d) (g := g) (by omega) (p.Limit.toNat + k)
        cases pw p l (p.Limit.toNat + k) <;> cases hasL l (p.Limit.toNat + k) 3 d <;> simp <;> omega
    have := key (t + 1 - p.Limit.toNat)
    rw [show p.Limit.toNat + (t + 1 - p.Limit.toNat) = t + 1 by omega] at this
    omega
end Go.Proofs.Ytfeomcdhhgeilaa.Pad
