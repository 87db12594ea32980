/- Steps, Worst, Mean of both. -/
import Derived.Test.YtogfongmnkmegaaLawTrails
set_option linter.unusedVariables false
namespace Go.Proofs.Ytogfongmnkmegaa.Pad
open Go Go.Proofs

theorem maxI_ge (a b : Int) : a ≤ maxI a b ∧ b ≤ maxI a b ∧ (maxI a b = a ∨ maxI a b = b) := by
  unfold maxI; split <;> omega
theorem F74_spec {g : Graph} {d : List Int} (hg : GoodMap g d) : ∃ n : Nat, F74 ⟨g.Edges, d⟩ = some (n : Int) ∧ F75 g = some (n : Int) ∧ 1 ≤ n ∧ n ≤ 100 := by
  have : Tot (F74 ⟨g.Edges, d⟩) (fun n => 1 ≤ n ∧ n ≤ 100) := by
    unfold F74
    refine Tot.bind (fun n => 1 ≤ n ∧ n ≤ 100) (Tot.forS (fun _ n => 1 ≤ n ∧ n ≤ 100) (by omega) ?_) (fun a h => Tot.pure h)
    intro j s hj hs
    simp only at hj ⊢
    rw [at?_lt hj, Option.bind_some]
    have := (hg.row _ (List.getElem_mem hj)).1
    have := maxI_ge s (g.Edges[j].length : Int)
    exact Tot.pure (by omega)
  obtain ⟨n, h1, h2, h3⟩ := this
  refine ⟨n.toNat, ?_, ?_, by omega, by omega⟩
  · rw [h1]; congr 1; omega
  · rw [show F75 g = F74 ⟨g.Edges, d⟩ from rfl, h1]; congr 1; omega

/-- The numbers of steps for each turn. -/
def StepsIs (g : Graph) (d : List Int) (mem most : Int) (n : Nat) (r : List Int × Bool) : Prop :=
  (r.2 = true ∧ r.1.length = n ∧ ∀ i (h : i < r.1.length), ∃ tr : List Int, F46 ⟨g.Edges, d⟩ ⟨mem, (i : Int)⟩ most = some (tr, true) ∧ r.1[i] = tr.length ∧ (tr.length : Int) ≤ most) ∨
  (r = ([], false) ∧ ∃ i : Nat, i < n ∧ ∃ tr, F46 ⟨g.Edges, d⟩ ⟨mem, (i : Int)⟩ most = some (tr, false))
theorem StepsIs.uniq {g : Graph} {d : List Int} {mem most : Int} {n : Nat} {r r' : List Int × Bool} (h : StepsIs g d mem most n r) (h' : StepsIs g d mem most n r') : r = r' := by
  obtain ⟨l, b⟩ := r
  obtain ⟨l', b'⟩ := r'
  rcases h with ⟨h1, h2, h3⟩ | ⟨h1, i, h2, tr, h3⟩ <;> rcases h' with ⟨h1', h2', h3'⟩ | ⟨h1', i', h2', tr', h3'⟩
  · simp only at h1 h2 h3 h1' h2' h3'
    subst h1; subst h1'
    congr 1
    apply List.ext_getElem (by omega)
    intro i a c
    obtain ⟨t1, e1, e2, _⟩ := h3 i a
    obtain ⟨t2, e3, e4, _⟩ := h3' i c
    rw [e1] at e3; cases e3
    rw [e2, e4]
  · obtain ⟨t1, e1, _⟩ := h3 i' (by omega)
    rw [e1] at h3'; cases h3'
  · obtain ⟨t1, e1, _⟩ := h3' i (by omega)
    rw [e1] at h3; cases h3
  · rw [h1, h1']
theorem run_at {g : Graph} {d : List Int} {mem most : Int} (hg : GoodMap g d) (hm : MindOk ⟨mem, 0⟩) (h0 : 0 ≤ most) (h1 : most ≤ 2000) {i : Nat} (hi : i < 100) :
    ∃ tr b, F46 ⟨g.Edges, d⟩ ⟨mem, (i : Int)⟩ most = some (tr, b) ∧ F48 g d ⟨mem, (i : Int)⟩ most = some (tr, b) ∧ (tr.length : Int) ≤ most := by
  obtain ⟨tr, p, M, _, a, b, c, _⟩ := search_both (m := ⟨mem, (i : Int)⟩) hg ⟨hm.m0, hm.m1, by simp, by simp only; omega⟩ h0 h1
  exact ⟨tr, _, a, b, c⟩
theorem F50_spec {g : Graph} {d : List Int} {mem most : Int} (hg : GoodMap g d) (hm : MindOk ⟨mem, 0⟩) (h0 : 0 ≤ most) (h1 : most ≤ 2000) {n : Nat} (hn : F74 ⟨g.Edges, d⟩ = some (n : Int)) (hn' : n ≤ 100) :
    Tot (F50 ⟨g.Edges, d⟩ mem most) (StepsIs g d mem most n) := by
  unfold F50
  rw [hn, Option.bind_some, cnt?_le (by omega), Option.bind_some, Int.toNat_natCast]
  refine Tot.bind _ (Tot.forN (fun j (s : List Int) => s.length = j ∧ ∀ i (h : i < s.length), ∃ tr : List Int, F46 ⟨g.Edges, d⟩ ⟨mem, (i : Int)⟩ most = some (tr, true) ∧ s[i] = tr.length ∧ (tr.length : Int) ≤ most) (fun r => r = ([], false) ∧ ∃ i : Nat, i < n ∧ ∃ tr, F46 ⟨g.Edges, d⟩ ⟨mem, (i : Int)⟩ most = some (tr, false)) ⟨rfl, fun i h => by simp at h⟩ ?_) ?_
  · intro j s hj ⟨hs, hI⟩
    obtain ⟨tr, b, e1, _, e3⟩ := run_at (mem := mem) hg hm h0 h1 (show j < 100 by omega)
    rw [e1, Option.bind_some]
    cases b with
    | false => exact Tot.pure ⟨rfl, j, hj, tr, e1⟩
    | true =>
      simp only [Bool.not_true, Bool.false_eq_true, if_false]
      rw [push?_le (by simp; omega), Option.bind_some]
      refine Tot.pure ⟨by simp [hs], ?_⟩
      intro i hi
      by_cases hij : i < s.length
      · rw [List.getElem_append_left hij]; exact hI i hij
      · have : i = j := by simp at hi; omega
        subst this
        exact ⟨tr, e1, by rw [List.getElem_append_right (by omega)]; simp, e3⟩
  intro o ho
  refine Tot.onL ho (fun s hs => Tot.pure (.inl ⟨rfl, hs⟩)) (fun r hr => .inr hr)
theorem F51_spec {g : Graph} {d : List Int} {mem most : Int} (hg : GoodMap g d) (hm : MindOk ⟨mem, 0⟩) (h0 : 0 ≤ most) (h1 : most ≤ 2000) {n : Nat} (hn : F75 g = some (n : Int)) (hn' : n ≤ 100) :
    Tot (F51 g d mem most) (StepsIs g d mem most n) := by
  unfold F51
  refine Tot.bind (Sum.elim (fun s : List Int × Int => s.1.length = n ∧ ∀ i (h : i < s.1.length), ∃ tr : List Int, F46 ⟨g.Edges, d⟩ ⟨mem, (i : Int)⟩ most = some (tr, true) ∧ s.1[i] = tr.length ∧ (tr.length : Int) ≤ most) (fun r => r = (([] : List Int), false) ∧ ∃ i : Nat, i < n ∧ ∃ tr, F46 ⟨g.Edges, d⟩ ⟨mem, (i : Int)⟩ most = some (tr, false))) ?_ ?_
  · refine whileO_inv (fun j (s : List Int × Int) => s.2 = j ∧ j ≤ n ∧ s.1.length = j ∧ ∀ i (h : i < s.1.length), ∃ tr : List Int, F46 ⟨g.Edges, d⟩ ⟨mem, (i : Int)⟩ most = some (tr, true) ∧ s.1[i] = tr.length ∧ (tr.length : Int) ≤ most)
      (Sum.elim (fun s : List Int × Int => s.1.length = n ∧ ∀ i (h : i < s.1.length), ∃ tr : List Int, F46 ⟨g.Edges, d⟩ ⟨mem, (i : Int)⟩ most = some (tr, true) ∧ s.1[i] = tr.length ∧ (tr.length : Int) ≤ most) (fun r => r = (([] : List Int), false) ∧ ∃ i : Nat, i < n ∧ ∃ tr, F46 ⟨g.Edges, d⟩ ⟨mem, (i : Int)⟩ most = some (tr, false))) n 0 (([] : List Int), (0 : Int)) ⟨rfl, by omega, rfl, fun i h => by simp at h⟩ ?_ ?_
    · rintro j ⟨s, t⟩ _ hj ⟨h2, h3, hs, hI⟩
      simp only at h2 hs hI ⊢
      subst h2
      obtain ⟨tr, b, e1, e2, e3⟩ := run_at (mem := mem) hg hm h0 h1 (show j < 100 by omega)
      rw [hn, Option.bind_some, if_pos (by simp; omega), e2, Option.bind_some]
      cases b with
      | false => exact .inr ⟨_, rfl, rfl, j, by omega, tr, e1⟩
      | true =>
        left
        simp only [Bool.not_true, Bool.false_eq_true, if_false]
        rw [push?_le (by simp; omega), Option.bind_some]
        refine ⟨_, rfl, by simp only; rw [w64_eq (by omega) (by omega)]; omega, by omega, by simp [hs], ?_⟩
        intro i hi
        simp only at hi ⊢
        by_cases hij : i < s.length
        · rw [List.getElem_append_left hij]; exact hI i hij
        · have : i = j := by simp at hi; omega
          subst this
          exact ⟨tr, e1, by rw [List.getElem_append_right (by omega)]; simp, e3⟩
    · rintro ⟨s, t⟩ ⟨h2, h3, hs, hI⟩
      simp only at h2 hs hI ⊢
      rw [hn, Option.bind_some, if_neg (by simp; omega)]
      exact ⟨_, rfl, by simp only; omega, hI⟩
  intro o ho
  refine Tot.onL ho (fun s hs => Tot.pure (.inl ⟨rfl, hs⟩)) (fun r hr => .inr hr)
theorem steps_both {g : Graph} {d : List Int} {mem most : Int} (hg : GoodMap g d) (hm : MindOk ⟨mem, 0⟩) (h0 : 0 ≤ most) (h1 : most ≤ 2000) :
    ∃ (n : Nat) (r : List Int × Bool), 1 ≤ n ∧ n ≤ 100 ∧ F74 ⟨g.Edges, d⟩ = some (n : Int) ∧ F50 ⟨g.Edges, d⟩ mem most = some r ∧ F51 g d mem most = some r ∧ StepsIs g d mem most n r := by
  obtain ⟨n, a, b, c, e⟩ := F74_spec hg
  obtain ⟨r, h2, h3⟩ := F50_spec hg hm h0 h1 a e
  obtain ⟨r', h4, h5⟩ := F51_spec hg hm h0 h1 b e
  have := h3.uniq h5
  subst this
  exact ⟨n, r, c, e, a, h2, h4, h3⟩

theorem F54_eq (a b : Nat) : F54 (a : Int) (b : Int) = some ((Nat.gcd a b : Nat) : Int) := by
  unfold F54
  suffices h : ∀ (b a : Nat), whileO (σ := (Int × Int)) (ρ := (Int × Int)) (fun s1 =>
     if decide (0 < s1.2) then
     ((md s1.1 s1.2).bind fun x7 =>
     some (Sum.inl (s1.2, x7)))
     else
     (some (Sum.inr (s1.1, s1.2)))) ((a : Int), (b : Int)) = some (((Nat.gcd a b : Nat) : Int), 0) by
    rw [h b a]; rfl
  intro b
  induction b using Nat.strongRecOn with
  | _ b ih =>
    intro a
    by_cases hb : b = 0
    · subst hb
      rw [whileO_inr (r := ((a : Int), 0)) (by simp)]; simp
    · rw [whileO_inl (s' := ((b : Int), ((a % b : Nat) : Int))) (by
        simp only
        rw [if_pos (by simp; omega), md_pos (by omega), Option.bind_some, Int.tmod_eq_emod_of_nonneg (by omega)]; rfl)]
      rw [ih (a % b) (Nat.mod_lt _ (by omega)) b, Nat.gcd_comm b, ← Nat.gcd_rec]
      rw [Nat.gcd_comm]
theorem F55_eq (a b : Nat) : F55 (a : Int) (b : Int) = some ((Nat.gcd a b : Nat) : Int) := F54_eq a b

/-- The greatest element and where it first stands. -/
def MaxIs (l : List Int) (v t : Int) : Prop := ∃ (k : Nat) (h : k < l.length), t = k ∧ v = l[k] ∧ (∀ i (h : i < l.length), l[i] ≤ v) ∧ ∀ i (hi : i < k), l[i]'(by omega) < v
theorem MaxIs.uniq {l : List Int} {v t v' t' : Int} (h : MaxIs l v t) (h' : MaxIs l v' t') : v = v' ∧ t = t' := by
  obtain ⟨k, hk, rfl, rfl, a, b⟩ := h
  obtain ⟨k', hk', rfl, rfl, a', b'⟩ := h'
  have h1 := a k' hk'
  have h2 := a' k hk
  refine ⟨by omega, ?_⟩
  rcases Nat.lt_trichotomy k k' with c | c | c
  · have := b' k c; omega
  · omega
  · have := b k' c; omega
theorem F52_spec {l : List Int} (h : 0 < l.length) (hl : l.length ≤ 1000) : Tot (F52 l) (fun v => (∃ k, ∃ h : k < l.length, v = l[k]) ∧ ∀ i (h : i < l.length), l[i] ≤ v) := by
  unfold F52
  rw [if_neg (by simp; omega)]
  simp only [Option.bind_some, onL]
  rw [show at? l 0 = some l[0] from at?_lt h, Option.bind_some]
  refine Tot.bind (fun s : Int × Int => (∃ k, ∃ h : k < l.length, s.1 = l[k]) ∧ ∀ i (h : i < l.length), l[i] ≤ s.1) ?_ (fun s hs => Tot.pure hs)
  refine whileO_inv (fun j (s : Int × Int) => s.2 = j ∧ j ≤ l.length ∧ (∃ k, ∃ h : k < l.length, s.1 = l[k]) ∧ ∀ i (h : i < l.length), i < j → l[i] ≤ s.1) (fun s : Int × Int => (∃ k, ∃ h : k < l.length, s.1 = l[k]) ∧ ∀ i (h : i < l.length), l[i] ≤ s.1) (l.length - 1) 1 (l[0], (1 : Int)) ⟨rfl, by omega, ⟨0, h, rfl⟩, fun i hi hlt => ?_⟩ ?_ ?_
  · have : i = 0 := by omega
    subst this; exact Int.le_refl _
  · rintro j ⟨s, t⟩ h1 h2 ⟨h3, h4, ⟨k, hk, h5⟩, h6⟩
    simp only at h3 h5 h6 ⊢
    subst h3
    left
    rw [if_pos (by simp; omega), at?_lt (by omega), Option.bind_some]
    have hm := maxI_ge s (l[j]'(by omega))
    refine ⟨_, rfl, by simp only; rw [w64_eq (by omega) (by omega)]; omega, by omega, ?_, ?_⟩
    · simp only
      rcases hm.2.2 with e | e
      · exact ⟨k, hk, by rw [e, h5]⟩
      · exact ⟨j, by omega, e⟩
    · intro i hi hlt
      simp only
      by_cases hij : i = j
      · subst hij; omega
      · have := h6 i hi (by omega); omega
  · rintro ⟨s, t⟩ ⟨h3, h4, h5, h6⟩
    simp only at h3 h5 h6 ⊢
    rw [if_neg (by simp; omega)]
    exact ⟨_, rfl, h5, fun i hi => h6 i hi (by omega)⟩
theorem F53_eq (l : List Int) (v : Int) : F53 l v = some (idx (fun x => v == x) l) := by
  unfold F53
  rw [forN_find (p := fun x => v == x) (out := fun i => (i : Int)) (fun i hi => by
    rw [at?_lt hi, Option.bind_some]
    split <;> rfl)]
  unfold idx
  cases l.findIdx? (fun x => v == x) <;> rfl
theorem worst_prog {l : List Int} (h : 0 < l.length) (hl : l.length ≤ 1000) : ∃ v t, F52 l = some v ∧ F53 l v = some t ∧ MaxIs l v t := by
  obtain ⟨v, h1, ⟨k, hk, h2⟩, h3⟩ := F52_spec h hl
  refine ⟨v, _, h1, F53_eq l v, ?_⟩
  rcases idx_cases (fun x => v == x) l with ⟨_, _, h4⟩ | ⟨i, hi, h4, _, h5, h6⟩
  · have := h4 _ (List.getElem_mem hk); simp [h2] at this
  · refine ⟨i, hi, h4, by simpa using h5, h3, ?_⟩
    intro j hj
    have h7 := h6 j hj
    have h8 := h3 j (by omega)
    simp at h7; omega
theorem worst_ref {l : List Int} (h : 0 < l.length) : ∃ t v, forS (σ := (Int)) (fun i1 s1 =>
 (at? l (i1 : Int)).bind fun x9 =>
 (at? l s1).bind fun x10 =>
 if decide (x10 < x9) then
 (some (i1 : Int))
 else
 (some s1)) l.length 0 0 = some t ∧ at? l t = some v ∧ MaxIs l v t := by
  have : Tot (forS (σ := (Int)) (fun i1 s1 =>
     (at? l (i1 : Int)).bind fun x9 =>
     (at? l s1).bind fun x10 =>
     if decide (x10 < x9) then
     (some (i1 : Int))
     else
     (some s1)) l.length 0 0) (fun (t : Int) => ∃ (k : Nat) (h : k < l.length), t = (k : Int) ∧ (∀ i (h : i < l.length), i < l.length → l[i] ≤ l[k]) ∧ ∀ i (hi : i < k), l[i]'(by omega) < l[k]) := by
    refine Tot.forS (fun (j : Nat) (t : Int) => ∃ (k : Nat) (h : k < l.length), t = (k : Int) ∧ (∀ i (h : i < l.length), i < j → l[i] ≤ l[k]) ∧ ∀ i (hi : i < k), l[i]'(by omega) < l[k]) ⟨0, h, rfl, fun i _ hi => by omega, fun i hi => by omega⟩ ?_
    rintro j _ hj ⟨k, hk, rfl, h1, h2⟩
    rw [at?_lt hj, Option.bind_some, at?_lt hk, Option.bind_some]
    refine Tot.ite (fun hc => ?_) (fun hc => ?_)
    · simp only [decide_eq_true_eq] at hc
      refine Tot.pure ⟨j, hj, rfl, ?_, ?_⟩
      · intro i hi hij
        by_cases e : i = j
        · subst e; exact Int.le_refl _
        · have := h1 i hi (by omega); omega
      · intro i hi
        have := h1 i (by omega) hi; omega
    · simp only [decide_eq_true_eq] at hc
      refine Tot.pure ⟨k, hk, rfl, ?_, h2⟩
      intro i hi hij
      by_cases e : i = j
      · subst e; omega
      · exact h1 i hi (by omega)
  obtain ⟨_, h1, k, hk, rfl, h2, h3⟩ := this
  exact ⟨k, l[k], h1, at?_lt hk, k, hk, rfl, rfl, fun i hi => h2 i hi hi, h3⟩

/-- What Worst answers. -/
def WorstIs (g : Graph) (d : List Int) (mem most : Int) (r : Int × Int × Int) : Prop :=
  ∃ e, ErrIs g d ⟨mem, 0⟩ most e ∧ ((e ≠ 0 ∧ r = (0, 0, e)) ∨ (e = 0 ∧ ∃ (n : Nat) (l : List Int) (b : Bool), 1 ≤ n ∧ n ≤ 100 ∧ F74 ⟨g.Edges, d⟩ = some (n : Int) ∧ F50 ⟨g.Edges, d⟩ mem most = some (l, b) ∧ StepsIs g d mem most n (l, b) ∧ ((b = false ∧ r = (0, 0, 3)) ∨ (b = true ∧ r.2.2 = 0 ∧ MaxIs l r.1 r.2.1))))
theorem F27_F28 (g : Graph) (d : List Int) (mem most : Int) : ∃ r, F27 g d mem most = some r ∧ F28 g d mem most = some r ∧ WorstIs g d mem most r := by
  unfold F27 F28
  obtain ⟨⟨v, e⟩, h1, h2, h3⟩ := F45_spec g d ⟨mem, 0⟩ most
  obtain ⟨e', h4, h5⟩ := F47_spec g d ⟨mem, 0⟩ most
  simp only at h2 h3
  have := h3.uniq h5
  subst this; subst h2
  rw [h1, h4, Option.bind_some, Option.bind_some]
  by_cases he : e = 0
  · subst he
    obtain ⟨a, b, c, c'⟩ := h3.ok
    obtain ⟨n, ⟨l, bb⟩, n1, n2, hn, h6, h7, h8⟩ := steps_both a b c c'
    simp only
    rw [if_neg (by simp), if_neg (by simp), h6, h7, Option.bind_some, Option.bind_some]
    cases bb with
    | false => exact ⟨_, rfl, rfl, 0, h3, .inr ⟨rfl, n, l, false, n1, n2, hn, h6, h8, .inl ⟨rfl, rfl⟩⟩⟩
    | true =>
      simp only [Bool.not_true, Bool.false_eq_true, if_false]
      have hl : l.length = n := by
        rcases h8 with ⟨_, h, _⟩ | ⟨h, _⟩
        · exact h
        · cases h
      obtain ⟨v, t, w1, w2, w3⟩ := worst_prog (l := l) (by omega) (by omega)
      obtain ⟨t', v', w4, w5, w6⟩ := worst_ref (l := l) (by omega)
      obtain ⟨rfl, rfl⟩ := w3.uniq w6
      rw [w1, Option.bind_some, w2, Option.bind_some]
      refine ⟨(v, t, 0), rfl, ?_, 0, h3, .inr ⟨rfl, n, l, true, n1, n2, hn, h6, h8, .inr ⟨rfl, rfl, w3⟩⟩⟩
      refine Eq.trans (congrArg (fun o => Option.bind o _) w4) ?_
      simp only [Option.bind_some, w5]
  · rw [if_pos (by simpa using he), if_pos (by simpa using he)]
    exact ⟨_, rfl, rfl, e, h3, .inl ⟨he, rfl⟩⟩

theorem sum_loop {l : List Int} {b : Nat} (hb : ∀ x ∈ l, 0 ≤ x ∧ x ≤ b) (hl : l.length * b ≤ 1000000) : ∃ s : Nat, forS (σ := (Int)) (fun i1 s1 =>
 (at? l (i1 : Int)).bind fun x6 =>
 some (w64 (s1 + x6))) l.length 0 0 = some (s : Int) ∧ (s : Int) = l.sum := by
  have : Tot (forS (σ := (Int)) (fun i1 s1 =>
     (at? l (i1 : Int)).bind fun x6 =>
     some (w64 (s1 + x6))) l.length 0 0) (fun s => s = (l.take l.length).sum ∧ 0 ≤ s ∧ s ≤ l.length * b) := by
    refine Tot.forS (fun j s => s = (l.take j).sum ∧ 0 ≤ s ∧ s ≤ j * b) ⟨by simp, by omega, by simp⟩ ?_
    intro j s hj ⟨h1, h2, h3⟩
    rw [at?_lt hj, Option.bind_some]
    have := hb _ (List.getElem_mem hj)
    have hmul : j * b + b ≤ l.length * b := by
      have : (j + 1) * b ≤ l.length * b := Nat.mul_le_mul_right b hj
      rw [Nat.add_mul] at this; omega
    have hcast : (j : Int) * (b : Int) = ((j * b : Nat) : Int) := by simp
    have hcast' : ((j + 1 : Nat) : Int) * (b : Int) = ((j * b + b : Nat) : Int) := by rw [← Int.natCast_mul, Nat.add_mul, Nat.one_mul]
    rw [w64_eq (by omega) (by omega)]
    refine Tot.pure ⟨?_, by omega, by omega⟩
    rw [List.take_add_one, List.getElem?_eq_getElem hj, Option.toList_some, List.sum_append, h1]; simp
  obtain ⟨s, h1, h2, h3, _⟩ := this
  rw [List.take_length] at h2
  exact ⟨s.toNat, by rw [h1]; congr 1; omega, by omega⟩
/-- What Mean answers. -/
def MeanIs (g : Graph) (d : List Int) (mem most : Int) (r : Int × Int × Int) : Prop :=
  ∃ e, ErrIs g d ⟨mem, 0⟩ most e ∧ ((e ≠ 0 ∧ r = (0, 0, e)) ∨ (e = 0 ∧ ∃ (n : Nat) (l : List Int) (b : Bool), 1 ≤ n ∧ n ≤ 100 ∧ F74 ⟨g.Edges, d⟩ = some (n : Int) ∧ F50 ⟨g.Edges, d⟩ mem most = some (l, b) ∧ StepsIs g d mem most n (l, b) ∧ ((b = false ∧ r = (0, 0, 3)) ∨
    (b = true ∧ r.2.2 = 0 ∧ ∃ s : Nat, (s : Int) = l.sum ∧ r.1 = ((s / Nat.gcd s n : Nat) : Int) ∧ r.2.1 = ((n / Nat.gcd s n : Nat) : Int)))))
theorem dv_nat {a b : Nat} (h : 0 < b) (ha : a ≤ 1000000000000000000) : dv (a : Int) (b : Int) = some ((a / b : Nat) : Int) := by
  unfold dv
  rw [if_neg (by omega), Int.tdiv_eq_ediv_of_nonneg (by omega)]
  have : a / b ≤ a := Nat.div_le_self a b
  have hc : (a : Int) / (b : Int) = ((a / b : Nat) : Int) := by simp
  rw [hc]
  clear hc
  generalize a / b = q at this ⊢
  rw [w64_eq (by omega) (by omega)]
theorem F29_F30 (g : Graph) (d : List Int) (mem most : Int) : ∃ r, F29 g d mem most = some r ∧ F30 g d mem most = some r ∧ MeanIs g d mem most r := by
  unfold F29 F30
  obtain ⟨⟨v, e⟩, h1, h2, h3⟩ := F45_spec g d ⟨mem, 0⟩ most
  obtain ⟨e', h4, h5⟩ := F47_spec g d ⟨mem, 0⟩ most
  simp only at h2 h3
  have := h3.uniq h5
  subst this; subst h2
  rw [h1, h4, Option.bind_some, Option.bind_some]
  by_cases he : e = 0
  · subst he
    obtain ⟨a, b, c, c'⟩ := h3.ok
    obtain ⟨n, ⟨l, bb⟩, n1, n2, hn, h6, h7, h8⟩ := steps_both a b c c'
    simp only
    rw [if_neg (by simp), if_neg (by simp), h6, h7, Option.bind_some, Option.bind_some]
    cases bb with
    | false => exact ⟨_, rfl, rfl, 0, h3, .inr ⟨rfl, n, l, false, n1, n2, hn, h6, h8, .inl ⟨rfl, rfl⟩⟩⟩
    | true =>
      simp only [Bool.not_true, Bool.false_eq_true, if_false]
      have hl : l.length = n ∧ ∀ x ∈ l, 0 ≤ x ∧ x ≤ (2000 : Nat) := by
        rcases h8 with ⟨_, h, h'⟩ | ⟨h, _⟩
        · refine ⟨h, fun x hx => ?_⟩
          obtain ⟨i, hi, rfl⟩ := List.mem_iff_getElem.1 hx
          obtain ⟨tr, _, e1, e2⟩ := h' i hi
          simp only at e1
          rw [e1]; omega
        · cases h
      obtain ⟨s, s1, s2⟩ := sum_loop hl.2 (by omega)
      have hs : s ≤ 1000000 := by
        have : l.sum ≤ l.length * 2000 := by
          have hb := hl.2
          clear s1 s2 h8 h6 h7 hl
          induction l with
          | nil => simp
          | cons x l ih =>
            have := ih (fun y hy => hb y (by simp [hy]))
            have := hb x (by simp)
            simp only [List.sum_cons, List.length_cons]; omega
        omega
      have hgp : 0 < Nat.gcd s n := Nat.gcd_pos_of_pos_right _ (by omega)
      refine ⟨(((s / Nat.gcd s n : Nat) : Int), ((n / Nat.gcd s n : Nat) : Int), 0), ?_, ?_, 0, h3, .inr ⟨rfl, n, l, true, n1, n2, hn, h6, h8, .inr ⟨rfl, rfl, s, s2, rfl, rfl⟩⟩⟩
      · refine Eq.trans (congrArg (fun o => Option.bind o _) s1) ?_
        simp only [Option.bind_some]
        rw [hl.1, F54_eq, Option.bind_some, dv_nat hgp (by omega), Option.bind_some, dv_nat hgp (by omega), Option.bind_some]
      · refine Eq.trans (congrArg (fun o => Option.bind o _) s1) ?_
        simp only [Option.bind_some]
        rw [hl.1, F55_eq, Nat.gcd_comm n s, Option.bind_some, dv_nat hgp (by omega), Option.bind_some, dv_nat hgp (by omega), Option.bind_some]
  · rw [if_pos (by simpa using he), if_pos (by simpa using he)]
    exact ⟨_, rfl, rfl, e, h3, .inl ⟨he, rfl⟩⟩
end Go.Proofs.Ytogfongmnkmegaa.Pad
