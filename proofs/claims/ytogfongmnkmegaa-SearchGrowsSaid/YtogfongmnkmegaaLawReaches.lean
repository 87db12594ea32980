/- SearchReaches, and what a run is. -/
import Derived.Test.YtogfongmnkmegaaLawSteps
set_option linter.unusedVariables false
namespace Go.Proofs.Ytogfongmnkmegaa.Pad
open Go Go.Proofs

def posOf (E : List (List Edge)) (tr : List Int) : Int := tr.foldl (nx E) 0
theorem Run.trail {g : Graph} {d : List Int} {m : Mind} {tr : List Int} {p : Int} {M : List Search_gone} (h : Run g.Edges d m tr p M) :
    posOf g.Edges tr = p ∧ ∀ i (hi : i < tr.length), 0 ≤ tr[i] ∧ tr[i] < (rowOf g.Edges (posOf g.Edges (tr.take i))).length ∧ dA d (posOf g.Edges (tr.take i)) ≠ 0 := by
  induction h with
  | start => exact ⟨rfl, fun i hi => by simp at hi⟩
  | step h1 h2 h3 h4 h5 h6 ih =>
    rename_i tr p M e
    obtain ⟨a, b⟩ := ih
    refine ⟨by unfold posOf at a ⊢; rw [List.foldl_append, a]; rfl, ?_⟩
    intro i hi
    by_cases hl : i < tr.length
    · rw [List.getElem_append_left hl, List.take_append_of_le_length (by omega)]
      exact b i hl
    · have : i = tr.length := by simp at hi; omega
      subst this
      rw [List.getElem_append_right (by omega), List.take_append_of_le_length (by omega), List.take_length, a]
      simp
      exact ⟨h4, h5, h2⟩
theorem Run.dist {g : Graph} {d : List Int} {m : Mind} (hg : GoodMap g d) (hm : 0 ≤ m.Memory) {tr : List Int} {p : Int} {M : List Search_gone} (h : Run g.Edges d m tr p M) :
    0 ≤ dA d p → 0 ≤ dA d 0 ∧ dA d 0 ≤ dA d p + tr.length := by
  induction h with
  | start => intro h; simp; exact h
  | step h1 h2 h3 h4 h5 h6 ih =>
    rename_i tr p M e
    intro hd
    have ⟨_, hp, _⟩ := h1.ok hg hm
    have hel := hg.el
    have hw := hg.dist p.toNat (by omega)
    rw [show ((p.toNat : Nat) : Int) = p by omega] at hw
    have hmem : ix z0 (rowOf g.Edges p) e ∈ rowOf g.Edges p := ix_mem z0 h4 h5
    have key : 0 ≤ dA d p ∧ dA d p ≤ dA d (nx g.Edges p e) + 1 := by
      rcases hw with hw | ⟨hw, _⟩ | ⟨e', _, a, b, c⟩
      · omega
      · have := hw _ hmem; unfold nx at hd; omega
      · have := c _ hmem (by unfold nx at hd; exact hd)
        unfold nx; omega
    obtain ⟨a, b⟩ := ih key.1
    simp only [List.length_append, List.length_singleton]
    omega
theorem F18_run {g : Graph} {d : List Int} {m : Mind} {most : Int} (h : ErrIs g d m most 0) :
    ∃ tr p M, Run g.Edges d m tr p M ∧ F46 ⟨g.Edges, d⟩ m most = some (tr, dA d p == 0) ∧ F18 g d m most = some (tr, dA d p == 0, 0) ∧ (tr.length : Int) ≤ most ∧
      (dA d p = 0 ∨ (rowOf g.Edges p).length = 0 ∨ (tr.length : Int) = most) := by
  obtain ⟨a, b, c, c'⟩ := h.ok
  obtain ⟨tr, p, M, h1, h2, _, h3, h4⟩ := search_both a b c c'
  refine ⟨tr, p, M, h1, h2, ?_, h3, h4⟩
  unfold F18
  obtain ⟨⟨v, e⟩, e1, e2, e3⟩ := F45_spec g d m most
  simp only at e2 e3
  have := e3.uniq h
  subst this; subst e2
  rw [e1, Option.bind_some, if_neg (by simp), h2]; rfl
theorem F18_cases (g : Graph) (d : List Int) (m : Mind) (most : Int) : ∃ e, ErrIs g d m most e ∧ (e ≠ 0 → F18 g d m most = some ([], false, e)) := by
  unfold F18
  obtain ⟨⟨v, e⟩, e1, e2, e3⟩ := F45_spec g d m most
  refine ⟨e, e3, fun he => ?_⟩
  rw [e1, Option.bind_some, if_pos (by simpa using he)]

theorem Tot.some_true {x : Option Bool} (h : Tot x (fun b => b = true)) : x = some true := by
  obtain ⟨b, h1, h2⟩ := h
  rw [h1, h2]

theorem F4_law (g : Graph) (d : List Int) (r : Law06_Run) : F4 g d r = some true := by
  unfold F4
  obtain ⟨b, hb, _⟩ := F15_spec g
  obtain ⟨e, he, _⟩ := F21_spec g d
  rw [hb, Option.bind_some, F17_eq]
  cases b with
  | true => rfl
  | false =>
    simp only [Bool.false_eq_true, if_false, he, Option.bind_some]
    by_cases h0 : e = 0
    rotate_left
    · rw [if_pos (by simpa using h0)]; rfl
    rw [if_neg (by simpa using h0), F16_eq, Option.bind_some]
    by_cases h : 120 < r.Most ∧ r.Most ≤ 2000
    · rw [if_pos (by simpa using h)]; rfl
    · rw [if_neg (by simpa using h)]
      simp only [Option.bind_some, onL]
      obtain ⟨e', h1, h2⟩ := F18_cases g d r.Mind r.Most
      by_cases he' : e' = 0
      rotate_left
      · rw [h2 he', Option.bind_some, if_pos (by simpa using he')]
      subst he'
      obtain ⟨tr, p, M, h3, _, h4, h5, h6⟩ := F18_run h1
      obtain ⟨hg, hm, c, c'⟩ := h1.ok
      have hel := hg.el; have hdl := hg.dl
      have ⟨_, hp, _⟩ := h3.ok hg hm.m0
      obtain ⟨ht1, ht2⟩ := h3.trail
      rw [h4, Option.bind_some]
      simp only
      rw [if_neg (by simp)]
      have hpos : ∀ i, i ≤ tr.length → 0 ≤ posOf g.Edges (tr.take i) ∧ posOf g.Edges (tr.take i) < g.Edges.length := by
        intro i
        induction i with
        | zero => intro _; rw [List.take_zero]; exact ⟨by simp [posOf], by simp [posOf]; have := hg.n1; omega⟩
        | succ i ih =>
          intro hi
          have a := ih (by omega)
          have ⟨b1, b2, _⟩ := ht2 i (by omega)
          have : posOf g.Edges (tr.take (i + 1)) = nx g.Edges (posOf g.Edges (tr.take i)) tr[i] := by
            unfold posOf; exact foldl_take_succ _ _ _ (by omega)
          rw [this]
          exact hg.edges _ _ a.1 a.2 b1 b2
      refine Tot.some_true ?_
      refine Tot.bind _ (Tot.forN (fun j (s : Int) => s = posOf g.Edges (tr.take j)) (fun _ : Bool => False) rfl ?_) ?_
      · rintro j _ hj rfl
        have ⟨a1, a2⟩ := hpos j (by omega)
        have ⟨b1, b2, b3⟩ := ht2 j hj
        have hatE : at? g.Edges (posOf g.Edges (tr.take j)) = some (rowOf g.Edges (posOf g.Edges (tr.take j))) := at?_ix [] a1 a2
        have hatd : at? d (posOf g.Edges (tr.take j)) = some (dA d (posOf g.Edges (tr.take j))) := at?_ix 0 a1 (by omega)
        rw [at?_lt hj, Option.bind_some, if_neg (by simpa using b1), hatE, Option.bind_some, if_neg (by simpa using b2), hatd, Option.bind_some, if_neg (by simpa using b3)]
        simp only [Option.bind_some]
        rw [at?_ix z0 b1 b2, Option.bind_some]
        refine Tot.pure ?_
        show _ = _
        unfold posOf
        rw [foldl_take_succ _ _ _ hj]; rfl
      intro o ho
      refine Tot.onL ho ?_ (fun r hr => hr.elim)
      rintro _ rfl
      rw [List.take_length, ht1]
      have hat : at? d p = some (dA d p) := at?_ix 0 hp.1 (by omega)
      have hatE : at? g.Edges p = some (rowOf g.Edges p) := at?_ix [] hp.1 hp.2
      have hat0 : at? d 0 = some (dA d 0) := at?_ix 0 (by omega) (by have := hg.n1; omega)
      rw [hat, hatE, hat0]
      simp only [Option.bind_some]
      rw [if_neg (by simp), if_neg (by simp; omega)]
      by_cases hd : dA d p = 0
      · have ⟨d1, d2⟩ := h3.dist hg hm.m0 (by omega)
        simp only [hd, beq_self_eq_true, Bool.not_true, Bool.false_eq_true, if_false, Option.bind_some]
        rw [if_pos (by simpa using d1), if_pos (by simp; omega)]
        exact Tot.pure rfl
      · have hd' : (dA d p == 0) = false := by simpa using hd
        simp only [hd', Bool.not_false, if_true]
        by_cases hlt : (tr.length : Int) < r.Most
        · have hz : (rowOf g.Edges p).length = 0 := by omega
          rw [if_pos (by simpa using hlt), if_neg (by simp only [decide_eq_true_eq]; omega)]
          exact Tot.pure rfl
        · rw [if_neg (by simpa using hlt)]
          exact Tot.pure rfl
end Go.Proofs.Ytogfongmnkmegaa.Pad
