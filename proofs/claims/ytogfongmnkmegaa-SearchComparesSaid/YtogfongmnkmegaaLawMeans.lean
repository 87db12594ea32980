/- SearchMeans, SearchNeeds, SearchNeeded, SearchCompares. -/
import Derived.Test.YtogfongmnkmegaaLawSteps
set_option linter.unusedVariables false
namespace Go.Proofs.Ytogfongmnkmegaa.Pad
open Go Go.Proofs

theorem F7_law (g : Graph) (d : List Int) (r : Law06_Run) : F7 g d r = some true := by
  unfold F7
  obtain ⟨b, hb, _⟩ := F15_spec g
  rw [hb, Option.bind_some, F17_eq]
  cases b with
  | true => rfl
  | false =>
    simp only [Bool.false_eq_true, if_false]
    rw [F16_eq, Option.bind_some]
    by_cases h : 120 < r.Most ∧ r.Most ≤ 2000
    · rw [if_pos (by simpa using h)]; rfl
    · rw [if_neg (by simpa using h)]
      simp only [Option.bind_some, onL]
      obtain ⟨x, h1, h2, _⟩ := F27_F28 g d r.Mind.Memory r.Most
      obtain ⟨y, h3, h4, _⟩ := F29_F30 g d r.Mind.Memory r.Most
      rw [h1, h2, h3, h4]
      simp

/-- All turns are done. -/
noncomputable def allDone (g : Graph) (d : List Int) (mem most : Int) : Bool := match F50 ⟨g.Edges, d⟩ mem most with | some r => r.2 | none => false
noncomputable def needsOf (g : Graph) (d : List Int) (most : Int) : Int × Int := match (List.range 201).findIdx? (fun i : Nat => allDone g d i most) with | some i => ((i : Int), 0) | none => (0, 3)
def NeedsIs (g : Graph) (d : List Int) (most : Int) (r : Int × Int) : Prop :=
  ∃ e, ErrIs g d ⟨0, 0⟩ most e ∧ ((e ≠ 0 ∧ r = (0, e)) ∨ (e = 0 ∧ r = needsOf g d most))
theorem F24_tot (g : Graph) : ∃ b, F24 g = some b := by
  unfold F24
  obtain ⟨s, hs, _⟩ := large_loop g
  rw [hs, Option.bind_some]
  split
  · split
    · exact ⟨_, rfl⟩
    · exact ⟨_, rfl⟩
  · exact ⟨_, rfl⟩
theorem F25_F26 (g : Graph) (d : List Int) (most : Int) : ∃ r, F25 g d most = some r ∧ F26 g d most = some r ∧ NeedsIs g d most r := by
  unfold F25 F26
  obtain ⟨⟨v, e⟩, h1, h2, h3⟩ := F45_spec g d ⟨0, 0⟩ most
  obtain ⟨e', h4, h5⟩ := F47_spec g d ⟨0, 0⟩ most
  simp only at h2 h3
  have := h3.uniq h5
  subst this; subst h2
  rw [h1, h4, Option.bind_some, Option.bind_some]
  by_cases he : e = 0
  · subst he
    obtain ⟨a, b, c, c'⟩ := h3.ok
    have hst : ∀ i : Nat, i < 201 → ∃ r, F50 ⟨g.Edges, d⟩ (i : Int) most = some r ∧ F51 g d (i : Int) most = some r ∧ allDone g d i most = r.2 := by
      intro i hi
      obtain ⟨n, r, _, _, _, h6, h7, _⟩ := steps_both (mem := (i : Int)) a ⟨by simp, by simp only; omega, by simp, by simp⟩ c c'
      refine ⟨r, h6, h7, ?_⟩
      unfold allDone; rw [h6]
    simp only
    rw [if_neg (by simp), if_neg (by simp), cnt?_le (by omega), Option.bind_some]
    have h201 : (201 : Int).toNat = (List.range 201).length := by simp
    rw [h201, forN_find (l := List.range 201) (p := fun i : Nat => allDone g d i most) (out := fun i => ((i : Int), (0 : Int))) (fun i hi => by
      simp only [List.length_range] at hi
      obtain ⟨r, h6, _, h8⟩ := hst i hi
      rw [h6, Option.bind_some, List.getElem_range, h8]
      split <;> rfl)]
    refine ⟨needsOf g d most, ?_, ?_, 0, h3, .inr ⟨rfl, rfl⟩⟩
    · unfold needsOf
      cases (List.range 201).findIdx? (fun i : Nat => allDone g d i most) <;> rfl
    · obtain ⟨o, ho, hE⟩ := whileO_inv (σ := Int) (ρ := Int ⊕ (Int × Int)) (body := fun s1 =>
         if decide (s1 ≤ 200) then
         ((F51 g d s1 most).bind fun x8 =>
         if x8.2 then
         (some (Sum.inr (Sum.inr (s1, 0))))
         else
         (some (Sum.inl (w64 (s1 + 1)))))
         else
         (some (Sum.inr (Sum.inl s1)))) (fun j s => s = j ∧ j ≤ 201 ∧ ∀ i, i < j → allDone g d (i : Int) most = false)
        (Sum.elim (fun _ => (List.range 201).findIdx? (fun i : Nat => allDone g d i most) = none) (fun r => ∃ i, (List.range 201).findIdx? (fun i : Nat => allDone g d i most) = some i ∧ r = ((i : Int), 0))) 201 0 0 ⟨rfl, by omega, fun i h => by omega⟩ (by
          rintro j _ _ hj ⟨rfl, h6, h7⟩
          obtain ⟨r, h8, h9, h10⟩ := hst j (by omega)
          rw [if_pos (by simp; omega), h9, Option.bind_some]
          by_cases hr : r.2 = true
          · right
            refine ⟨_, if_pos hr, j, ?_, rfl⟩
            refine List.findIdx?_eq_some_iff_getElem.2 ⟨by simp; omega, ?_, ?_⟩
            · rw [List.getElem_range, h10, hr]
            · intro i hi
              rw [List.getElem_range, h7 i hi]; simp
          · left
            refine ⟨_, if_neg hr, by rw [w64_eq (by omega) (by omega)]; omega, by omega, ?_⟩
            intro i hi
            by_cases hij : i = j
            · subst hij; rw [h10]; simpa using hr
            · exact h7 i (by omega)) (by
          rintro _ ⟨rfl, h6, h7⟩
          refine ⟨_, if_neg (by simp), ?_⟩
          refine List.findIdx?_eq_none_iff.2 ?_
          intro i hi
          have := List.mem_range.1 hi
          exact h7 i (by omega))
      refine Eq.trans (congrArg (fun o => Option.bind o _) ho) ?_
      unfold needsOf
      cases o with
      | inl s => rw [show (List.range 201).findIdx? (fun i : Nat => allDone g d i most) = none from hE]; rfl
      | inr r =>
        obtain ⟨i, hi, rfl⟩ := hE
        rw [hi]; rfl
  · rw [if_pos (by simpa using he), if_pos (by simpa using he)]
    exact ⟨_, rfl, rfl, e, h3, .inl ⟨he, rfl⟩⟩
theorem F6_law (g : Graph) (d : List Int) (most : Int) : F6 g d most = some true := by
  unfold F6
  obtain ⟨b, hb⟩ := F24_tot g
  rw [hb, Option.bind_some, F17_eq]
  cases b with
  | false => rfl
  | true =>
    simp only [Bool.not_true, Bool.false_eq_true, if_false]
    by_cases h : 40 < most
    · rw [if_pos (by simpa using h)]; rfl
    · rw [if_neg (by simpa using h)]
      simp only [Option.bind_some, onL]
      obtain ⟨x, h1, h2, _⟩ := F25_F26 g d most
      rw [h1, h2]
      simp
theorem F10_law (g : Graph) (d : List Int) (most : Int) : F10 g d most = some true := by
  unfold F10
  obtain ⟨b, hb⟩ := F24_tot g
  rw [hb, Option.bind_some, F17_eq]
  cases b with
  | false => rfl
  | true =>
    simp only [Bool.not_true, Bool.false_eq_true, if_false]
    by_cases h : 40 < most
    · rw [if_pos (by simpa using h)]; rfl
    · rw [if_neg (by simpa using h)]
      simp only [Option.bind_some, onL]
      obtain ⟨x, h1, _, e, h2, h3⟩ := F25_F26 g d most
      rw [h1, Option.bind_some]
      rcases h3 with ⟨he, rfl⟩ | ⟨rfl, rfl⟩
      · rw [if_pos (by simpa using he)]
      · obtain ⟨hg, hm, c, c'⟩ := h2.ok
        unfold needsOf
        cases hf : (List.range 201).findIdx? (fun i : Nat => allDone g d i most) with
        | none => rfl
        | some i =>
          obtain ⟨f1, f2, f3⟩ := List.findIdx?_eq_some_iff_getElem.1 hf
          simp only [List.length_range] at f1
          rw [List.getElem_range] at f2
          simp only
          rw [if_neg (by simp)]
          have hw : ∀ j : Nat, j < 201 → ∃ r, F27 g d (j : Int) most = some r ∧ r.2.2 = if allDone g d (j : Int) most then 0 else 3 := by
            intro j hj
            obtain ⟨r, w1, _, e, w2, w3⟩ := F27_F28 g d (j : Int) most
            have he : e = 0 := w2.uniq (.inl ⟨rfl, hg, ⟨by simp, by simp only; omega, by simp, by simp⟩, c, c'⟩)
            subst he
            refine ⟨r, w1, ?_⟩
            rcases w3 with ⟨h, _⟩ | ⟨_, n, l, b, _, _, _, w4, _, w5⟩
            · exact (h rfl).elim
            · have : allDone g d (j : Int) most = b := by unfold allDone; rw [w4]
              rw [this]
              rcases w5 with ⟨rfl, rfl⟩ | ⟨rfl, h, _⟩
              · rfl
              · exact h
          obtain ⟨r, w1, w2⟩ := hw i (by omega)
          rw [f2, if_pos rfl] at w2
          rw [w1, Option.bind_some, w2, if_neg (by simp), if_neg (by simp)]
          simp only [Option.bind_some]
          by_cases hi0 : 0 < i
          · rw [if_pos (by simpa using hi0), w64_eq (by omega) (by omega)]
            obtain ⟨r', w3, w4⟩ := hw (i - 1) (by omega)
            have := f3 (i - 1) (by omega)
            rw [List.getElem_range] at this
            rw [if_neg (by simpa using this)] at w4
            rw [show (i : Int) - 1 = ((i - 1 : Nat) : Int) by omega, w3, Option.bind_some, w4]
            rfl
          · rw [if_neg (by simpa using hi0)]

/-- What Harder answers. -/
def cmpI (a b : Int) : Int := if a < b then -1 else if b < a then 1 else 0
theorem F56_eq (a b : Int) : F56 a b = some (cmpI a b) := by
  unfold F56 F76 cmpI
  simp only [Option.bind_some, bne_self_eq_false, Bool.false_eq_true, if_false, decide_eq_true_eq]
  split
  · rfl
  · split <;> rfl
theorem F31_F32 (g h : Graph) (d c : List Int) (mem most : Int) : ∃ x y r, F29 g d mem most = some x ∧ F29 h c mem most = some y ∧ F31 g h d c mem most = some r ∧ F32 g h d c mem most = some r ∧
    r = if x.2.2 ≠ 0 then (0, x.2.2) else if y.2.2 ≠ 0 then (0, y.2.2) else (cmpI (w64 (x.1 * y.2.1)) (w64 (y.1 * x.2.1)), 0) := by
  unfold F31 F32
  obtain ⟨x, h1, h2, _⟩ := F29_F30 g d mem most
  obtain ⟨y, h3, h4, _⟩ := F29_F30 h c mem most
  rw [h1, h2, Option.bind_some, Option.bind_some]
  refine ⟨x, y, _, rfl, h3, ?_, ?_, rfl⟩
  · by_cases hx : x.2.2 = 0
    · rw [if_neg (by simpa using hx), if_neg (by simpa using hx), h3, Option.bind_some]
      by_cases hy : y.2.2 = 0
      · rw [if_neg (by simpa using hy), if_neg (by simpa using hy), F56_eq]; rfl
      · rw [if_pos (by simpa using hy), if_pos hy]
    · rw [if_pos (by simpa using hx), if_pos hx]
  · by_cases hx : x.2.2 = 0
    · rw [if_neg (by simpa using hx), if_neg (by simpa using hx), h4, Option.bind_some]
      by_cases hy : y.2.2 = 0
      · have hy' : (y.2.2 != 0) = false := by simpa using hy
        have hy2 : ¬ (y.2.2 ≠ 0) := by simpa using hy
        simp only [hy', Bool.false_eq_true, if_false, if_neg hy2]
        unfold cmpI
        simp only [decide_eq_true_eq]
        split
        · rfl
        · split <;> rfl
      · rw [if_pos (by simpa using hy), if_pos hy]
    · rw [if_pos (by simpa using hx), if_pos hx]
theorem cmpI_neg (a b : Int) : cmpI b a = -cmpI a b := by
  unfold cmpI
  repeat' split
  all_goals omega
theorem cmpI_rng (a b : Int) : -1 ≤ cmpI a b ∧ cmpI a b ≤ 1 := by
  unfold cmpI
  split
  · omega
  · split <;> omega
theorem F9_law (g : Graph) (d : List Int) (o : Law06_Other) : F9 g d o = some true := by
  unfold F9
  obtain ⟨b, hb, _⟩ := F15_spec g
  obtain ⟨b', hb', _⟩ := F15_spec o.Graph
  rw [hb, hb', Option.bind_some, F17_eq]
  cases b with
  | true => rfl
  | false =>
    simp only [Bool.false_eq_true, if_false, Option.bind_some]
    cases b' with
    | true => rfl
    | false =>
      simp only [Bool.false_eq_true, if_false]
      rw [F16_eq, Option.bind_some]
      by_cases h : 120 < o.Run.Most ∧ o.Run.Most ≤ 2000
      · rw [if_pos (by simpa using h)]; rfl
      · rw [if_neg (by simpa using h)]
        simp only [Option.bind_some, onL]
        obtain ⟨x, y, r, h1, h2, h3, h4, h5⟩ := F31_F32 g o.Graph d o.Distances o.Run.Mind.Memory o.Run.Most
        obtain ⟨y', x', r', h1', h2', h3', _, h5'⟩ := F31_F32 o.Graph g o.Distances d o.Run.Mind.Memory o.Run.Most
        obtain ⟨x2, x3, r2, h6, h6', h7, _, h8⟩ := F31_F32 g g d d o.Run.Mind.Memory o.Run.Most
        rw [h1] at h2' h6 h6'
        rw [h2] at h1'
        cases h1'; cases h2'; cases h6; cases h6'
        rw [h3, h4, h3', h7]
        simp only [Option.bind_some]
        rw [if_neg (by simp), if_neg (by simp)]
        simp only [Option.bind_some]
        by_cases hr : r.2 = 0
        · rw [if_neg (by simpa using hr)]
          have hx : x.2.2 = 0 := by
            apply Classical.byContradiction
            intro hx
            rw [if_pos hx] at h5
            rw [h5] at hr; exact hx hr
          rw [if_neg (by simpa using hx)] at h5 h8
          have hy : y.2.2 = 0 := by
            apply Classical.byContradiction
            intro hy
            rw [if_pos hy] at h5
            rw [h5] at hr; exact hy hr
          rw [if_neg (by simpa using hy)] at h5 h5'
          rw [if_neg (by simpa using hx)] at h8 h5'
          subst h5; subst h5'; subst h8
          have := cmpI_rng (w64 (x.1 * y.2.1)) (w64 (y.1 * x.2.1))
          have hn := cmpI_neg (w64 (x.1 * y.2.1)) (w64 (y.1 * x.2.1))
          simp only
          rw [if_pos (by rfl), if_pos (by rfl), show w64 (0 - cmpI (w64 (x.1 * y.2.1)) (w64 (y.1 * x.2.1))) = 0 - cmpI (w64 (x.1 * y.2.1)) (w64 (y.1 * x.2.1)) from w64_eq (by omega) (by omega), hn, if_pos (by simp), if_pos (by
            unfold cmpI; simp)]
        · rw [if_pos (by simpa using hr)]
end Go.Proofs.Ytogfongmnkmegaa.Pad
