/- A player who remembers all edges is done. -/
import Derived.Test.YtogfongmnkmegaaLawFinish
set_option linter.unusedVariables false
namespace Go.Proofs.Ytogfongmnkmegaa.Pad
open Go Go.Proofs
theorem im_ {P : Nat → Prop} (h : ∃ k, P k) : ∃ k, P k ∧ ∀ j, j < k → ¬ P j := by
  obtain ⟨k, hk⟩ := h
  induction k using Nat.strongRecOn with
  | _ k ih =>
    by_cases hd : ∀ j, j < k → ¬ P j
    · exact ⟨k, hk, hd⟩
    · obtain ⟨j, hj, hp⟩ : ∃ j, j < k ∧ P j := by
        apply Classical.byContradiction
        intro hn
        exact hd (fun j hj hp => hn ⟨j, hj, hp⟩)
      exact ih j hj hp
theorem near_of {E : List (List Edge)} {kn : Int → Int → Bool} {p : Int} (h : ∃ (k : Nat) (q : Int), (0 ≤ q ∧ q < E.length) ∧ Fr_ E kn q ∧ Di E kn k p q) : ∃ (k : Nat) (q : Int), Near E kn p k q := by
  obtain ⟨k, ⟨q, hq⟩, hk⟩ := im_ h
  obtain ⟨j, hj, hjm⟩ := im_ (P := fun j : Nat => (j : Int) < E.length ∧ Fr_ E kn (j : Int) ∧ Di E kn k p (j : Int)) ⟨q.toNat, by rw [show ((q.toNat : Nat) : Int) = q by omega]; exact ⟨hq.1.2, hq.2⟩⟩
  refine ⟨k, j, ⟨by omega, hj.1, hj.2.1, hj.2.2⟩, ?_⟩
  intro k' q' q0 q1 hf hd
  by_cases hlt : k' < k
  · exact (hk k' hlt ⟨q', ⟨q0, q1⟩, hf, hd⟩).elim
  · by_cases he : k = k'
    · right
      refine ⟨he, ?_⟩
      subst he
      apply Classical.byContradiction
      intro hlt'
      refine hjm q'.toNat (by omega) ?_
      rw [show ((q'.toNat : Nat) : Int) = q' by omega]
      exact ⟨q1, hf, hd⟩
    · left; omega
section
variable {g : Graph} {d : List Int} {m : Mind}
theorem Run.visited (hg : GoodMap g d) (hm : m.Memory = 200) (hs : cm_ g.Edges ≤ 40) {tr : List Int} {p : Int} {M : List Search_gone} (h : Run g.Edges d m tr p M) :
    Reach g.Edges p ∧ ∀ q i, knS M q i = true → Reach g.Edges q ∧ (nx g.Edges q i = p ∨ dA d (nx g.Edges q i) ≠ 0) := by
  induction h with
  | start => exact ⟨⟨0, .nil _⟩, fun q i h => by simp [knS] at h⟩
  | step h1 h2 h3 h4 h5 h6 ih =>
    rename_i tr p M e
    obtain ⟨a, b⟩ := ih
    obtain ⟨hM, hp, _⟩ := h1.ok hg (by omega)
    refine ⟨a.next (dk_.2 ⟨hp, h4, h5⟩), fun q i hk => ?_⟩
    rcases ((gw_ hM hp ⟨h4, h5⟩ (by omega)).2.1 q i).1 hk with hk | ⟨rfl, rfl⟩
    · obtain ⟨c1, c2⟩ := b q i hk
      refine ⟨c1, .inr ?_⟩
      rcases c2 with c2 | c2
      · rw [c2]; exact h2
      · exact c2
    · exact ⟨a, .inl rfl⟩
theorem Run.near (hg : GoodMap g d) (hm : m.Memory = 200) (hs : cm_ g.Edges ≤ 40) (hnd : ∀ q, Reach g.Edges q → 0 ≤ dA d q) {tr : List Int} {p : Int} {M : List Search_gone} (h : Run g.Edges d m tr p M) (hd : dA d p ≠ 0) :
    ∃ (k : Nat) (q : Int), Near g.Edges (knS M) p k q := by
  have hel := hg.el
  obtain ⟨hM, hp, _⟩ := h.ok hg (by omega)
  obtain ⟨hr, hv⟩ := h.visited hg hm hs
  have hkn := hM.kn
  apply near_of
  apply Classical.byContradiction
  intro hno
  have hin : ∀ (k : Nat) (q : Int), Wk g.Edges (knS M) k p q → (0 ≤ q ∧ q < g.Edges.length) ∧ 0 < dA d q := by
    intro k
    cases k with
    | zero =>
      intro q hw
      rw [← hw.zero]
      have := hnd p hr
      exact ⟨hp, by omega⟩
    | succ k =>
      intro q hw
      obtain ⟨r, i, _, h2, rfl⟩ := hw.unsnoc
      have hk := hkn _ _ h2
      obtain ⟨c1, c2⟩ := hv r i h2
      have := hnd _ (c1.next (dk_.2 ⟨⟨hk.1, hk.2.1⟩, hk.2.2⟩))
      refine ⟨hg.edges _ _ hk.1 hk.2.1 hk.2.2.1 hk.2.2.2, ?_⟩
      rcases c2 with c2 | c2
      · rw [c2] at this ⊢; omega
      · omega
  have hdesc : ∀ (v : Nat) (k : Nat) (q : Int), Wk g.Edges (knS M) k p q → dA d q = v → False := by
    intro v
    induction v using Nat.strongRecOn with
    | _ v ih =>
      intro k q hw hv'
      obtain ⟨hq, hpos⟩ := hin k q hw
      obtain ⟨e, he, hn⟩ := hg.down hq hpos
      obtain ⟨i, hi, hie⟩ := List.mem_iff_getElem.1 he
      unfold kn_ at hn
      simp only [Bool.and_eq_true, decide_eq_true_eq] at hn
      have hk : knS M q i = true := by
        apply Classical.byContradiction
        intro hc
        obtain ⟨j, _, hdj⟩ := hw.di
        exact hno ⟨j, q, hq, ⟨i, by omega, by omega, by simpa using hc⟩, hdj⟩
      have hnx : nx g.Edges q i = e.To := by unfold nx; rw [eg_ z0 hi, hie]
      refine ih (v - 1) (by omega) (k + 1) (nx g.Edges q i) (hw.snoc hk) ?_
      rw [hnx, hn.2]; omega
  have := (hin 0 p (.nil _)).2
  exact hdesc (dA d p).toNat 0 p (.nil _) (by omega)
theorem Near.uniq {E : List (List Edge)} {kn : Int → Int → Bool} {p : Int} {k k' : Nat} {q q' : Int} (h : Near E kn p k q) (h' : Near E kn p k' q') : k = k' := by
  have h1 := h.2 k' q' h'.1.1 h'.1.2.1 h'.1.2.2.1 h'.1.2.2.2
  have h2 := h'.2 k q h.1.1 h.1.2.1 h.1.2.2.1 h.1.2.2.2
  omega
theorem Run.bound (hg : GoodMap g d) (hm : m.Memory = 200) (hs : cm_ g.Edges ≤ 40) (hnd : ∀ q, Reach g.Edges q → 0 ≤ dA d q) {tr : List Int} {p : Int} {M : List Search_gone} (h : Run g.Edges d m tr p M) :
    dA d p ≠ 0 → ∃ (k : Nat) (q : Int), Near g.Edges (knS M) p k q ∧ tr.length + k ≤ g.Edges.length * M.length := by
  induction h with
  | start =>
    intro hd
    have hrun : Run g.Edges d m [] 0 [] := .start
    obtain ⟨k, q, hn⟩ := hrun.near hg hm hs hnd hd
    refine ⟨k, q, hn, ?_⟩
    cases k with
    | zero => simp
    | succ k =>
      obtain ⟨i, hi, _⟩ := hn.1.2.2.2.src
      simp [knS] at hi
  | step h1 h2 h3 h4 h5 h6 ih =>
    rename_i tr p M e
    intro hd
    have hrun' := Run.step h1 h2 h3 h4 h5 h6
    obtain ⟨hM, hp, _⟩ := h1.ok hg (by omega)
    obtain ⟨hM', hp', _⟩ := hrun'.ok hg (by omega)
    obtain ⟨k', q', hn'⟩ := hrun'.near hg hm hs hnd hd
    obtain ⟨k, q, hn, hb⟩ := ih h2
    obtain ⟨_, n2, n3, n4⟩ := gw_ hM hp ⟨h4, h5⟩ (mem := m.Memory) (by omega)
    refine ⟨k', q', hn', ?_⟩
    have hlt := hn'.1.2.2.2.lt hM'.kn ⟨hn'.1.1, hn'.1.2.1⟩
    rw [List.length_append, List.length_singleton]
    rcases h6 with ⟨hf, he⟩ | ⟨hf, b, hbk, hbb⟩
    · have hkn : knS M p e = false := by
        rcases dq_ g.Edges (knS M) p m.Turn with ⟨_, hc⟩ | ⟨_, _, hc⟩
        · exact (hc hf).elim
        · rw [he]; exact hc
      have hk0 : k = 0 := by
        have := hn.2 0 p hp.1 hp.2 hf .zero
        omega
      rw [n4 hkn, Nat.mul_add, Nat.mul_one]
      omega
    · rcases hbk with ⟨hc, _⟩ | ⟨k2, q2, hnear, ⟨hkb, hwk⟩, _⟩
      · exact (hc k q hn.1.1 hn.1.2.1 hn.1.2.2.1 hn.1.2.2.2).elim
      · have hrb := hM.kn _ _ hkb
        have heb : e = b := by
          rcases hbb with ⟨_, h⟩ | ⟨h, _⟩
          · exact h
          · omega
        subst heb
        have hfun : knS (du_ m.Memory M p e) = knS M := by
          funext q i
          rw [Bool.eq_iff_iff, n2]
          constructor
          · rintro (h | ⟨rfl, rfl⟩)
            · exact h
            · exact hkb
          · exact .inl
        have hku := hn.uniq hnear
        rw [n3 hkb]
        obtain ⟨j, hj, hdj⟩ := hwk.di
        rw [hfun] at hn'
        have := hn'.2 j q2 hnear.1.1 hnear.1.2.1 hnear.1.2.2.1 hdj
        omega
theorem Run.finishes (hg : GoodMap g d) (hm : m.Memory = 200) (hs : cm_ g.Edges ≤ 40) (hnd : ∀ q, Reach g.Edges q → 0 ≤ dA d q) {tr : List Int} {p : Int} {M : List Search_gone} (h : Run g.Edges d m tr p M)
    (hstop : dA d p = 0 ∨ (ba_ g.Edges p).length = 0 ∨ tr.length = cm_ g.Edges * g.Edges.length) : dA d p = 0 := by
  apply Classical.byContradiction
  intro hd
  have hel := hg.el
  obtain ⟨hM, hp, _⟩ := h.ok hg (by omega)
  obtain ⟨hr, _⟩ := h.visited hg hm hs
  have h0 := hnd p hr
  rcases hstop with h1 | h1 | h1
  · exact hd h1
  · obtain ⟨e, he, _⟩ := hg.down hp (by omega)
    rw [List.length_eq_zero_iff.1 h1] at he; cases he
  · obtain ⟨k, q, hn, hb⟩ := h.bound hg hm hs hnd hd
    have hle : g.Edges.length * M.length ≤ g.Edges.length * cm_ g.Edges := Nat.mul_le_mul_left _ hM.le
    rw [h1, Nat.mul_comm (cm_ g.Edges)] at hb
    have hk : k = 0 := by omega
    subst hk
    have hz := hn.1.2.2.2.1.zero
    have hf : Fr_ g.Edges (knS M) p := by rw [hz]; exact hn.1.2.2.1
    have hlt := hM.lt hp hf
    have : g.Edges.length * (M.length + 1) ≤ g.Edges.length * cm_ g.Edges := Nat.mul_le_mul_left _ hlt
    rw [Nat.mul_add, Nat.mul_one] at this
    omega
theorem ChooseIs.again {E : List (List Edge)} {M : List Search_gone} {p turn e : Int} (h : ChooseIs E M p turn e) (hk : knS M p e = true) : ∀ i : Int, 0 ≤ i → i < (ba_ E p).length → knS M p i = true := by
  intro i i0 i1
  rcases h with ⟨hf, he⟩ | ⟨hf, _⟩
  · rcases dq_ E (knS M) p turn with ⟨_, hc⟩ | ⟨_, _, hc⟩
    · exact (hc hf).elim
    · rw [he, hc] at hk; cases hk
  · apply Classical.byContradiction
    intro hc
    exact hf ⟨i, i0, i1, by simpa using hc⟩
end
end Go.Proofs.Ytogfongmnkmegaa.Pad
