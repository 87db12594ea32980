/- The reference's way back. -/
import Derived.Test.YtogfongmnkmegaaLawFar
set_option linter.unusedVariables false
namespace Go.Proofs.Ytogfongmnkmegaa.Pad
open Go Go.Proofs
theorem Near.of {E : List (List Edge)} {kn : Int → Int → Bool} {p : Int} {k : Nat} {q : Int} (h1 : 0 ≤ q ∧ q < E.length) (h2 : Fr_ E kn q) (h3 : Di E kn k p q)
    (h : ∀ j : Nat, j < E.length → Fr_ E kn j → ∀ m, Di E kn m p j → k < m ∨ (k = m ∧ q ≤ j)) : Near E kn p k q := by
  refine ⟨⟨h1.1, h1.2, h2, h3⟩, ?_⟩
  intro k' q' a b c d
  have := h q'.toNat (by omega)
  rw [show ((q'.toNat : Nat) : Int) = q' by omega] at this
  exact this c k' d
theorem hx_ {α : Type} [DecidableEq α] (x : α) (M : List α) : decide (0 ≤ idx (fun y => decide (y = x)) M) = decide (x ∈ M) := by
  have := nm_ x M
  have h2 : decide (0 ≤ idx (fun y => decide (y = x)) M) = !decide (idx (fun y => decide (y = x)) M < 0) := by
    by_cases h : 0 ≤ idx (fun y => decide (y = x)) M
    · rw [decide_eq_true h, decide_eq_false (by omega)]; rfl
    · rw [decide_eq_false h, decide_eq_true (by omega)]; rfl
  rw [h2, this]; simp
theorem nb_ {g : Graph} {M : List Ref06_gone} {p : Int} (hk : me_ g.Edges (knR M)) (he : ez_ g.Edges) (hn : g.Edges.length ≤ 300) (hr : ∀ r ∈ g.Edges, r.length ≤ 100)
    (hp : 0 ≤ p ∧ p < g.Edges.length) (hfr : ¬ Fr_ g.Edges (knR M) p) : Tot (F71 g M p) (BackIs g.Edges (knR M) p) := by
  unfold F71
  have hrow : ∀ q : Int, 0 ≤ q → q < g.Edges.length → (ba_ g.Edges q).length ≤ 100 := fun q a b => hr _ (eh_ _ a b)
  refine Tot.bind _ (Tot.forS (fun j (s : Int × Int) =>
    (s.1 = -1 ∧ ∀ k : Nat, k < j → Fr_ g.Edges (knR M) k → ∀ m, ¬ Di g.Edges (knR M) m p k) ∨
    ∃ k m : Nat, k < j ∧ s.1 = k ∧ s.2 = m ∧ 0 < m ∧ Fr_ g.Edges (knR M) k ∧ Di g.Edges (knR M) m p k ∧ ∀ k' : Nat, k' < j → Fr_ g.Edges (knR M) k' → ∀ m', Di g.Edges (knR M) m' p k' → m < m' ∨ (m = m' ∧ (k : Int) ≤ k')) (.inl ⟨rfl, fun k h => by omega⟩) ?_) ?_
  · rintro j ⟨s1, s2⟩ hj hI
    rw [ny_ (by omega) (by omega) (hrow _ (by omega) (by omega)) (by omega) (by omega), Option.bind_some]
    simp only at hI ⊢
    rcases dq_ g.Edges (knR M) j 0 with ⟨hf, hf'⟩ | ⟨hf, hf1, hf2⟩
    · rw [hf, if_pos (by simp)]
      refine Tot.pure ?_
      rcases hI with ⟨a, b⟩ | ⟨k, m, a, b, c, d, e, f, h⟩
      · refine .inl ⟨a, fun k hk' hfk => ?_⟩
        by_cases hkj : k = j
        · subst hkj; exact (hf' hfk).elim
        · exact b k (by omega) hfk
      · refine .inr ⟨k, m, by omega, b, c, d, e, f, fun k' hk' hfk => ?_⟩
        by_cases hkj : k' = j
        · subst hkj; exact (hf' hfk).elim
        · exact h k' (by omega) hfk
    · have hfr' : Fr_ g.Edges (knR M) j := ⟨_, hf, hf1, hf2⟩
      rw [if_neg (by simp; omega)]
      refine Tot.bind _ (kg_ hk he hn ⟨by omega, by omega⟩) ?_
      intro out hout
      rw [ce_ 0 hp.1 (by rw [hout.1]; exact hp.2), Option.bind_some]
      have hv := hout.2 p.toNat (by omega)
      rw [show ((p.toNat : Nat) : Int) = p by omega] at hv
      rcases hv with ⟨m, hm, hd⟩ | ⟨hm, hd⟩
      · rw [hm]
        have hm0 : 0 < m := by
          cases m with
          | zero => 
            have := hd.1.zero
            rw [this] at hfr; exact (hfr hfr').elim
          | succ m => omega
        rw [if_pos (by simpa using hm0)]
        rcases hI with ⟨a, b⟩ | ⟨k, m', a, b, c, d, e, f, h⟩
        · rw [if_pos (by simp; omega)]
          refine Tot.pure (.inr ⟨j, m, by omega, rfl, rfl, hm0, hfr', hd, fun k' hk' hfk m2 hd2 => ?_⟩)
          by_cases hkj : k' = j
          · subst hkj; have := hd.uniq hd2; right; omega
          · exact (b k' (by omega) hfk m2 hd2).elim
        · rw [if_neg (by simp; omega)]
          subst c
          by_cases hlt : m < m'
          · rw [if_pos (by simpa using hlt)]
            refine Tot.pure (.inr ⟨j, m, by omega, rfl, rfl, hm0, hfr', hd, fun k' hk' hfk m2 hd2 => ?_⟩)
            by_cases hkj : k' = j
            · subst hkj; have := hd.uniq hd2; right; omega
            · have := h k' (by omega) hfk m2 hd2; left; omega
          · rw [if_neg (by simpa using hlt)]
            refine Tot.pure (.inr ⟨k, m', by omega, b, rfl, d, e, f, fun k' hk' hfk m2 hd2 => ?_⟩)
            by_cases hkj : k' = j
            · subst hkj; have := hd.uniq hd2
              subst this
              by_cases heq : m' = m
              · subst heq
                right; refine ⟨rfl, ?_⟩
                omega
              · left; omega
            · exact h k' (by omega) hfk m2 hd2
      · rw [hm, if_neg (by simp)]
        refine Tot.pure ?_
        rcases hI with ⟨a, b⟩ | ⟨k, m, a, b, c, d, e, f, h⟩
        · refine .inl ⟨a, fun k hk' hfk => ?_⟩
          by_cases hkj : k = j
          · subst hkj; exact hd
          · exact b k (by omega) hfk
        · refine .inr ⟨k, m, by omega, b, c, d, e, f, fun k' hk' hfk => ?_⟩
          by_cases hkj : k' = j
          · subst hkj; intro m' hm'; exact (hd m' hm').elim
          · exact h k' (by omega) hfk
  rintro ⟨t, l⟩ hI
  simp only at hI ⊢
  rcases hI with ⟨a, b⟩ | ⟨k, m, a, b, c, d, e, f, h⟩
  · rw [if_pos (by simp; omega)]
    refine Tot.pure (.inl ⟨?_, rfl⟩)
    intro k q h1 h2 h3
    have := b q.toNat (by omega)
    rw [show ((q.toNat : Nat) : Int) = q by omega] at this
    exact this h3 k
  · subst b; subst c
    rw [if_neg (by simp)]
    refine Tot.bind _ (kg_ hk he hn ⟨by omega, by omega⟩) ?_
    intro out hout
    obtain ⟨m, rfl⟩ : ∃ m', m = m' + 1 := ⟨m - 1, by omega⟩
    have hlt := f.lt hk ⟨by omega, by omega⟩
    have hval : ∀ i : Int, knR M p i = true → (ix 0 out (nx g.Edges p i) = m ↔ Wk g.Edges (knR M) m (nx g.Edges p i) k) := by
      intro i hi
      have ⟨k1, k2, k3, k4⟩ := hk _ _ hi
      have hq := he _ _ k1 k2 k3 k4
      have hv := hout.2 (nx g.Edges p i).toNat (by omega)
      rw [show (((nx g.Edges p i).toNat : Nat) : Int) = nx g.Edges p i by omega] at hv
      constructor
      · intro h1
        rcases hv with ⟨j, h2, h3⟩ | ⟨h2, _⟩
        · rw [show m = j by omega]; exact h3.1
        · omega
      · intro hw
        have hd : Di g.Edges (knR M) m (nx g.Edges p i) k := ⟨hw, fun j hj hw' => f.2 (j + 1) (by omega) (.cons hi hw')⟩
        rcases hv with ⟨j, h2, h3⟩ | ⟨_, h2⟩
        · rw [h2, h3.uniq hd]
        · exact (h2 m hd).elim
    refine Tot.bind (Sum.elim (fun _ : Int => False) (fun r : Int => (knR M p r = true ∧ Wk g.Edges (knR M) m (nx g.Edges p r) k) ∧ ∀ i, knR M p i = true → Wk g.Edges (knR M) m (nx g.Edges p i) k → r ≤ i)) ?_ ?_
    · have hrp := hrow p hp.1 hp.2
      refine cj_ (fun i (s : Int) => s = i ∧ i ≤ (ba_ g.Edges p).length ∧ ∀ i' : Nat, i' < i → ¬ (knR M p i' = true ∧ Wk g.Edges (knR M) m (nx g.Edges p i') k)) (Sum.elim (fun _ : Int => False) (fun r : Int => (knR M p r = true ∧ Wk g.Edges (knR M) m (nx g.Edges p r) k) ∧ ∀ i, knR M p i = true → Wk g.Edges (knR M) m (nx g.Edges p i) k → r ≤ i)) (ba_ g.Edges p).length 0 0 ⟨rfl, by omega, fun i h => by omega⟩ ?_ ?_
      · rintro i _ _ hi ⟨rfl, h2, h3⟩
        have hat : at? g.Edges p = some (ba_ g.Edges p) := ce_ [] hp.1 hp.2
        rw [hat, Option.bind_some, if_pos (by simp; omega), mg_, Option.bind_some, hx_]
        by_cases hkn : knR M p i = true
        · have hin : (⟨p, (i : Int)⟩ : Ref06_gone) ∈ M := of_decide_eq_true hkn
          have ⟨k1, k2, k3, k4⟩ := hk _ _ hkn
          have hq := he _ _ k1 k2 k3 k4
          have hnx : (ix z0 (ba_ g.Edges p) (i : Int)).To = nx g.Edges p i := rfl
          rw [if_pos (by simpa using hin), Option.bind_some, ce_ z0 k3 k4, Option.bind_some, hnx, ce_ 0 hq.1 (by rw [hout.1]; exact hq.2), Option.bind_some, ci_ (by omega) (by omega)]
          by_cases hv : ix 0 out (nx g.Edges p i) = m
          · right
            refine ⟨_, if_pos (by rw [hv]; simp), ⟨hkn, (hval _ hkn).1 hv⟩, ?_⟩
            intro i' h4 h5
            have := hk _ _ h4
            apply Classical.byContradiction
            intro hlt'
            refine h3 i'.toNat (by omega) ?_
            rw [show ((i'.toNat : Nat) : Int) = i' by omega]; exact ⟨h4, h5⟩
          · left
            refine ⟨_, if_neg (by simp; omega), by rw [ci_ (by omega) (by omega)]; omega, by omega, ?_⟩
            intro i' hi'
            by_cases hii : i' = i
            · subst hii; exact fun hc => hv ((hval _ hkn).2 hc.2)
            · exact h3 i' (by omega)
        · left
          have hin : ¬ (⟨p, (i : Int)⟩ : Ref06_gone) ∈ M := fun hc => hkn (decide_eq_true hc)
          refine ⟨_, if_neg (by simpa using hin), by rw [ci_ (by omega) (by omega)]; omega, by omega, ?_⟩
          intro i' hi'
          by_cases hii : i' = i
          · subst hii; exact fun hc => hkn hc.1
          · exact h3 i' (by omega)
      · rintro _ ⟨rfl, h2, h3⟩
        exfalso
        obtain ⟨i, h4, h5⟩ := f.src
        have := hk _ _ h4
        refine h3 i.toNat (by omega) ?_
        rw [show ((i.toNat : Nat) : Int) = i by omega]; exact ⟨h4, h5.1⟩
    · intro o ho
      cases o with
      | inl x => exact ho.elim
      | inr r =>
        refine Tot.pure (.inr ⟨m, k, Near.of ⟨by omega, by omega⟩ e f ?_, ho.1, ho.2⟩)
        intro j hj hfj m' hd'
        exact h j hj hfj m' hd'
end Go.Proofs.Ytogfongmnkmegaa.Pad
