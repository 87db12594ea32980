/- The two Checks of a map. -/
import Derived.Test.YtogfongmnkmegaaLawGraph
set_option linter.unusedVariables false
namespace Go.Proofs.Ytogfongmnkmegaa.Pad
open Go Go.Proofs
def idx {α : Type} (p : α → Bool) (l : List α) : Int := match l.findIdx? p with | some i => (i : Int) | none => -1
theorem dr_ {α ρ : Type} {p : α → Bool} {l : List α} {body : Nat → Unit → Option (Unit ⊕ ρ)} (out : Nat → ρ)
    (hb : ∀ i (h : i < l.length), body i () = some (if p l[i] = true then Sum.inr (out i) else Sum.inl ())) :
    forN body l.length 0 () = some (match l.findIdx? p with | some i => Sum.inr (out i) | none => Sum.inl ()) := by
  suffices h : ∀ (k i : Nat), i + k = l.length → forN body k i () = some (match (l.drop i).findIdx? p with | some j => Sum.inr (out (i + j)) | none => Sum.inl ()) by
    have := h l.length 0 (by omega)
    simpa using this
  intro k
  induction k with
  | zero => intro i h; rw [List.drop_of_length_le (by omega)]; rfl
  | succ k ih =>
    intro i h
    have hi : i < l.length := by omega
    rw [List.drop_eq_getElem_cons hi, List.findIdx?_cons]
    simp only [forN, hb i hi]
    by_cases hp : p l[i] = true
    · simp [hp]
    · rw [if_neg hp, if_neg hp]
      simp only
      rw [ih (i + 1) (by omega)]
      cases (l.drop (i + 1)).findIdx? p with
      | none => rfl
      | some j => simp only [Option.map]; rw [show i + 1 + j = i + (j + 1) by omega]
theorem ei_ {α : Type} (p : α → Bool) (l : List α) :
    (idx p l = -1 ∧ l.findIdx? p = none ∧ ∀ x ∈ l, p x = false) ∨ ∃ (i : Nat) (h : i < l.length), idx p l = i ∧ l.findIdx? p = some i ∧ p l[i] = true ∧ ∀ (j : Nat) (hj : j < i), p (l[j]'(by omega)) = false := by
  unfold idx
  cases h : l.findIdx? p with
  | none => exact .inl ⟨rfl, rfl, by simpa using List.findIdx?_eq_none_iff.1 h⟩
  | some i =>
    right
    have := List.findIdx?_eq_some_iff_getElem.1 h
    obtain ⟨h1, h2, h3⟩ := this
    exact ⟨i, h1, rfl, rfl, h2, fun j hj => by simpa using h3 j hj⟩
theorem ds_ {α β : Type} (f : β → α → β) (l : List α) (b : β) {j : Nat} (h : j < l.length) : (l.take (j + 1)).foldl f b = f ((l.take j).foldl f b) l[j] := by
  rw [List.take_add_one, List.getElem?_eq_getElem h, Option.toList_some, kr_]
theorem iz_ (a b c : Int) : F61 a b c = some (decide (b ≤ a ∧ a ≤ c)) := by
  unfold F61; by_cases h : b ≤ a <;> simp [h]
theorem oa_ (a b c : Int) : F49 a b c = some (decide (b ≤ a ∧ a ≤ c)) := by
  unfold F49; by_cases h : b ≤ a <;> simp [h]
theorem F59_eq {l : List Edge} {f : Edge → Option Bool} {p : Edge → Bool} (h : ∀ x ∈ l, f x = some (p x)) : F59 l f = some (idx p l) := by
  unfold F59
  rw [dr_ (p := p) (out := fun i => (i : Int)) (fun i hi => by
    rw [de_ hi, Option.bind_some, h _ (List.getElem_mem hi), Option.bind_some]
    by_cases hp : p l[i] = true <;> simp [hp])]
  unfold idx
  cases l.findIdx? p <;> rfl
theorem F77_eq {l : List Edge} {f : Edge → Option Bool} {p : Edge → Bool} (h : ∀ x ∈ l, f x = some (p x)) : F77 l f = some (l.any p) := by
  unfold F77
  rw [F59_eq h, Option.bind_some]
  rcases ei_ p l with ⟨h1, _, h2⟩ | ⟨i, hi, h1, _, h2, _⟩
  · rw [h1]
    have : l.any p = false := by simpa using h2
    rw [this]; rfl
  · rw [h1]
    have : l.any p = true := List.any_eq_true.2 ⟨_, List.getElem_mem hi, h2⟩
    rw [this]; simp
theorem F78_eq (e : Edge) (n : Int) (h : 0 ≤ n) (h' : n ≤ 300) : F78 e n = some (!decide (0 ≤ e.To ∧ e.To < n)) := by
  unfold F78
  rw [iz_, ci_ (by omega) (by omega), Option.bind_some]
  congr 2
  exact decide_eq_decide.2 (by omega)
theorem F79_eq {E : List (List Edge)} {d : List Int} {p : Int} (h0 : 0 ≤ p) (h : p < E.length) (hr : ∀ e ∈ ba_ E p, 0 ≤ e.To ∧ e.To < d.length) :
    F79 ⟨E, d⟩ p = some (jk_ d (ba_ E p)) := by
  unfold F79
  rw [ce_ [] h0 h, Option.bind_some]
  obtain ⟨s, h1, h2⟩ := Tot.forS (k := (ba_ E p).length) (s := (1099511627776 : Int)) (body := fun i1 s1 =>
     (at? (ba_ E p) (i1 : Int)).bind fun x8 => (at? d x8.To).bind fun x9 => if x9 != (-1) then (some (ko_ s1 x9)) else (some s1))
    (fun i s => s = ((ba_ E p).take i).foldl (hf_ d) 1099511627776) (by rfl) (by
      intro j s hj hs
      subst hs
      have hr' := hr _ (List.getElem_mem hj)
      rw [de_ hj, Option.bind_some, ce_ 0 hr'.1 hr'.2, Option.bind_some]
      rw [ds_ _ _ _ hj]
      refine ⟨_, ?_, rfl⟩
      unfold hf_
      split <;> rfl)
  change Option.bind (forS _ _ _ _) _ = _
  rw [h1, Option.bind_some]
  subst h2
  rw [List.take_length]
  unfold jk_ fe_
  by_cases h3 : List.foldl (hf_ d) 1099511627776 (ba_ E p) = 1099511627776
  · simp [h3]
  · simp [h3]
theorem nc_ (g : Graph) (d : List Int) : Tot (F57 g d) (fun x => x.1 = ⟨g.Edges, d⟩ ∧ ((x.2 = 0 ∧ GoodMap g d) ∨ (x.2 = 60 ∧ ¬ GoodMap g d))) := by
  unfold F57
  refine Tot.bind (Sum.elim (fun _ => MShape g d) (fun x => x.1 = ⟨g.Edges, d⟩ ∧ x.2 = 60 ∧ ¬ MShape g d)) ?_ ?_
  · rw [iz_, Option.bind_some]
    refine Tot.ite (fun h => ?_) (fun h => Tot.ite (fun h1 => ?_) (fun h1 => Tot.ite (fun h2 => ?_) (fun h2 => ?_)))
    · exact Tot.pure ⟨rfl, rfl, fun s => by have := s.n1; have := s.n2; simp at h; omega⟩
    · exact Tot.pure ⟨rfl, rfl, fun s => by have := s.el; simp at h1; omega⟩
    · exact Tot.pure ⟨rfl, rfl, fun s => by have := s.dl; simp at h2; omega⟩
    · simp at h h1 h2
      exact Tot.pure ⟨by omega, by omega, by omega, by omega⟩
  intro o ho
  refine Tot.onL ho ?_ (fun r hr => ⟨hr.1, .inr ⟨hr.2.1, fun hg => hr.2.2 hg.toMShape⟩⟩)
  intro _ sh
  have n1 := sh.n1; have n2 := sh.n2; have el := sh.el; have dl := sh.dl
  refine Tot.bind _ (Tot.forN (fun j _ => ∀ i (h : i < g.Edges.length), i < j → ia_ g.Positions.length g.Edges[i]) (fun x => x.1 = ⟨g.Edges, d⟩ ∧ x.2 = 60 ∧ ¬ GoodMap g d) (by intro i _ h; omega) ?_) ?_
  · intro j _ hj hI
    rw [de_ hj, Option.bind_some]
    refine Tot.ite (fun h => ?_) (fun h => ?_)
    · refine Tot.pure ⟨rfl, rfl, fun hg => ?_⟩
      have := (hg.row _ (List.getElem_mem hj)).1
      simp at h; omega
    · rw [F77_eq (fun x _ => F78_eq x _ (by omega) (by omega)), Option.bind_some]
      refine Tot.ite (fun h' => ?_) (fun h' => ?_)
      · refine Tot.pure ⟨rfl, rfl, fun hg => ?_⟩
        obtain ⟨e, he, h2⟩ := List.any_eq_true.1 h'
        have := (hg.row _ (List.getElem_mem hj)).2 e he
        simp at h2; omega
      · refine Tot.pure ?_
        intro i hi hij
        by_cases hlt : i < j
        · exact hI i hi hlt
        · have : i = j := by omega
          subst this
          refine ⟨by simp at h; omega, fun e he => ?_⟩
          simp only [Bool.not_eq_true, List.any_eq_false] at h'
          have := h' e he
          simpa using this
  intro o ho
  refine Tot.onL ho ?_ (fun r hr => ⟨hr.1, .inr hr.2⟩)
  intro _ hI
  have hrow : ∀ r ∈ g.Edges, ia_ g.Positions.length r := by
    intro r hr
    obtain ⟨i, hi, rfl⟩ := List.mem_iff_getElem.1 hr
    exact hI i hi hi
  clear hI ho o
  refine Tot.bind _ (Tot.forN (fun j _ => ∀ i : Nat, i < j → dA d i = 0 ∨ dA d i = he_ d (ba_ g.Edges i)) (fun x => x.1 = ⟨g.Edges, d⟩ ∧ x.2 = 60 ∧ ¬ GoodMap g d) (by intro i h; omega) ?_) ?_
  · intro j _ hj hI
    rw [ce_ 0 (by omega) (by omega : (j : Int) < d.length), Option.bind_some,
      F79_eq (by omega) (by omega) (fun e he => by have := (hrow _ (dn_ (g := g) (p := (j : Int)) (by omega) (by omega))).2 e he; omega), Option.bind_some]
    refine Tot.bind (fun v => v = he_ d (ba_ g.Edges j)) ?_ ?_
    · unfold he_
      refine Tot.ite (fun h => ?_) (fun h => ?_)
      · rw [if_pos (by simpa using h)]; exact Tot.pure rfl
      · rw [if_neg (by simpa using h)]; exact Tot.pure rfl
    rintro _ rfl
    have hbad : ix 0 d (j : Int) ≠ 0 → ix 0 d (j : Int) ≠ he_ d (ba_ g.Edges j) → ¬ GoodMap g d := by
      intro h h' hg
      rcases (lu_.2 hg).2.2 j (by omega) with h2 | h2
      · exact h h2
      · exact h' h2
    have hok : (dA d j = 0 ∨ dA d j = he_ d (ba_ g.Edges j)) → ∀ i : Nat, i < j + 1 → dA d i = 0 ∨ dA d i = he_ d (ba_ g.Edges i) := by
      intro h i hi
      by_cases hlt : i < j
      · exact hI i hlt
      · have : i = j := by omega
        subst this; exact h
    refine Tot.ite (fun h => Tot.ite (fun h' => ?_) (fun h' => ?_)) (fun h => ?_)
    · exact Tot.pure ⟨rfl, rfl, hbad (by simpa using h) (by simpa using h')⟩
    · exact Tot.pure (hok (.inr (by simpa using h')))
    · exact Tot.pure (hok (.inl (by simpa using h)))
  intro o ho
  refine Tot.onL ho ?_ (fun r hr => ⟨hr.1, .inr hr.2⟩)
  intro _ hI
  refine Tot.pure ⟨rfl, .inl ⟨rfl, lu_.1 ⟨sh, hrow, fun p hp => hI p (by omega)⟩⟩⟩
theorem nf_ (g : Graph) (d : List Int) : Tot (F21 g d) (fun x => (x = 0 ∧ GoodMap g d) ∨ (x = 60 ∧ ¬ GoodMap g d)) := by
  unfold F21
  refine Tot.bind (Sum.elim (fun _ => MShape g d) (fun x => x = 60 ∧ ¬ MShape g d)) ?_ ?_
  · rw [oa_, Option.bind_some]
    refine Tot.ite (fun h => ?_) (fun h => Tot.ite (fun h1 => ?_) (fun h1 => Tot.ite (fun h2 => ?_) (fun h2 => ?_)))
    · exact Tot.pure ⟨rfl, fun s => by have := s.n1; have := s.n2; simp at h; omega⟩
    · exact Tot.pure ⟨rfl, fun s => by have := s.el; simp at h1; omega⟩
    · exact Tot.pure ⟨rfl, fun s => by have := s.dl; simp at h2; omega⟩
    · simp at h h1 h2
      exact Tot.pure ⟨by omega, by omega, by omega, by omega⟩
  intro o ho
  refine Tot.onL ho ?_ (fun r hr => .inr ⟨hr.1, fun hg => hr.2 hg.toMShape⟩)
  intro _ sh
  have n1 := sh.n1; have n2 := sh.n2; have el := sh.el; have dl := sh.dl
  refine Tot.bind _ (Tot.forN (fun j _ => ∀ i : Nat, i < j → ia_ g.Positions.length (ba_ g.Edges i) ∧ (dA d i = 0 ∨ dA d i = gr_ d (ba_ g.Edges i))) (fun x => x = 60 ∧ ¬ GoodMap g d) (by intro i h; omega) ?_) ?_
  · intro j _ hj hI
    have hat : at? g.Edges (j : Int) = some (ba_ g.Edges j) := ce_ [] (by omega) (by omega)
    have hat' : at? d (j : Int) = some (dA d j) := ce_ 0 (by omega) (by omega)
    rw [hat, Option.bind_some]
    refine Tot.ite (fun h => ?_) (fun h => ?_)
    · refine Tot.pure ⟨rfl, fun hg => ?_⟩
      have := (hg.row _ (dn_ (g := g) (p := (j : Int)) (by omega) (by omega))).1
      simp at h; omega
    · simp only [decide_eq_true_eq] at h
      simp only [Option.bind_some]
      refine Tot.bind (Sum.elim (fun x : Int × Int => ia_ g.Positions.length (ba_ g.Edges j) ∧ x.1 = gy_ d (ba_ g.Edges j)) (Sum.elim (fun _ : Unit => False) (fun r : Int => r = 60 ∧ ¬ GoodMap g d))) ?_ ?_
      · refine cj_ (fun i (s : Int × Int) => s.2 = i ∧ s.1 = ((ba_ g.Edges j).take i).foldl (ie_ d) (-1) ∧ i ≤ (ba_ g.Edges j).length ∧ ∀ k (hk : k < (ba_ g.Edges j).length), k < i → 0 ≤ (ba_ g.Edges j)[k].To ∧ (ba_ g.Edges j)[k].To < g.Positions.length)
          (Sum.elim (fun x : Int × Int => ia_ g.Positions.length (ba_ g.Edges j) ∧ x.1 = gy_ d (ba_ g.Edges j)) (Sum.elim (fun _ : Unit => False) (fun r : Int => r = 60 ∧ ¬ GoodMap g d))) (ba_ g.Edges j).length 0 ((-1 : Int), (0 : Int)) ⟨rfl, rfl, by omega, fun k _ h => by omega⟩ ?_ ?_
        · intro i s _ hi ⟨h1, h2, h3, h4⟩
          obtain ⟨s1, s2⟩ := s
          simp only at h1 h2
          subst h1
          have hi' : i < (ba_ g.Edges j).length := by omega
          simp only [hi', Int.ofNat_lt, decide_true, if_true, de_ hi', Option.bind_some, oa_]
          rw [ci_ (by omega) (by omega)]
          by_cases hto : 0 ≤ (ba_ g.Edges j)[i].To ∧ (ba_ g.Edges j)[i].To ≤ (g.Positions.length : Int) - 1
          · left
            rw [if_neg (by simp [hto]), ce_ 0 hto.1 (by omega), Option.bind_some]
            refine ⟨(ie_ d s1 (ba_ g.Edges j)[i], w64 ((i : Int) + 1)), ?_, by rw [ci_ (by omega) (by omega)]; omega, ?_, by omega, ?_⟩
            · unfold ie_
              simp only [decide_eq_true_eq]
              split
              · split
                · rfl
                · split <;> rfl
              · rfl
            · rw [ds_ _ _ _ hi', h2]
            · intro k hk hlt
              by_cases hki : k < i
              · exact h4 k hk hki
              · have : k = i := by omega
                subst this; exact ⟨hto.1, by omega⟩
          · right
            rw [if_pos (by simp only [decide_eq_false hto, Bool.not_false])]
            refine ⟨_, rfl, rfl, fun hg => hto ?_⟩
            have := (hg.row _ (dn_ (g := g) (p := (j : Int)) (by omega) (by omega))).2 _ (List.getElem_mem hi')
            omega
        · intro s ⟨h1, h2, h3, h4⟩
          obtain ⟨s1, s2⟩ := s
          simp only at h1 h2
          refine ⟨.inl (s1, s2), ?_, ⟨by omega, ?_⟩, ?_⟩
          · rw [if_neg (by simp; omega)]
          · intro e he
            obtain ⟨k, hk, rfl⟩ := List.mem_iff_getElem.1 he
            exact h4 k hk (by omega)
          · show s1 = _
            rw [h2, Nat.zero_add, List.take_length]; rfl
      intro o ho
      cases o with
      | inr r =>
        cases r with
        | inl x => exact ho.elim
        | inr r => exact ⟨_, rfl, ho⟩
      | inl x =>
        have ⟨hro, hx⟩ := ho
        simp only [onL]
        refine Tot.bind (fun v => v = gr_ d (ba_ g.Edges j)) ?_ ?_
        · unfold gr_
          rw [hx]
          refine Tot.ite (fun h => ?_) (fun h => ?_)
          · rw [if_pos (by simpa using h)]; exact Tot.pure rfl
          · rw [if_neg (by simpa using h)]; exact Tot.pure rfl
        rintro _ rfl
        rw [hat', Option.bind_some]
        have hbad : dA d (j : Int) ≠ 0 → dA d (j : Int) ≠ gr_ d (ba_ g.Edges j) → ¬ GoodMap g d := by
          intro h h' hg
          rcases (lg_.2 hg).2.2 j (by omega) with h2 | h2
          · exact h h2
          · exact h' h2
        have hok : (dA d j = 0 ∨ dA d j = gr_ d (ba_ g.Edges j)) → ∀ i : Nat, i < j + 1 → ia_ g.Positions.length (ba_ g.Edges i) ∧ (dA d i = 0 ∨ dA d i = gr_ d (ba_ g.Edges i)) := by
          intro h i hi
          by_cases hlt : i < j
          · exact hI i hlt
          · have : i = j := by omega
            subst this; exact ⟨hro, h⟩
        simp only [Option.bind_some]
        refine Tot.ite (fun h => Tot.ite (fun h' => ?_) (fun h' => ?_)) (fun h => ?_)
        · exact Tot.pure ⟨rfl, hbad (by simpa using h) (by simpa using h')⟩
        · exact Tot.pure (hok (.inr (by simpa using h')))
        · exact Tot.pure (hok (.inl (by simpa using h)))
  intro o ho
  refine Tot.onL ho ?_ (fun r hr => .inr hr)
  intro _ hI
  refine Tot.pure (.inl ⟨rfl, lg_.1 ⟨sh, ?_, fun p hp => (hI p hp).2⟩⟩)
  intro r hr
  obtain ⟨i, hi, rfl⟩ := gx_ [] hr
  exact (hI i (by omega)).1
end Go.Proofs.Ytogfongmnkmegaa.Pad
