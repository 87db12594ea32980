/- Lure of both, and SearchMaps. -/
import Derived.Test.YtogfongmnkmegaaLawReach
set_option linter.unusedVariables false
namespace Go.Proofs.Ytogfongmnkmegaa.Pad
open Go Go.Proofs

theorem forS_inv2 {σ τ : Type} {b : Nat → σ → Option σ} {c : Nat → τ → Option τ} (I : Nat → σ → τ → Prop) : ∀ (k i : Nat) (s : σ) (t : τ), I i s t →
    (∀ j s t, i ≤ j → j < i + k → I j s t → ∃ s' t', b j s = some s' ∧ c j t = some t' ∧ I (j + 1) s' t') → ∃ s' t', forS b k i s = some s' ∧ forS c k i t = some t' ∧ I (i + k) s' t'
  | 0, i, s, t, h, _ => ⟨s, t, rfl, rfl, h⟩
  | k + 1, i, s, t, h, st => by
    obtain ⟨s1, t1, h1, h2, h3⟩ := st i s t (Nat.le_refl _) (by omega) h
    obtain ⟨s2, t2, h4, h5, h6⟩ := forS_inv2 I k (i + 1) s1 t1 h3 (fun j s t a b c => st j s t (by omega) (by omega) c)
    refine ⟨s2, t2, ?_, ?_, by rwa [show i + (k + 1) = i + 1 + k by omega]⟩
    · simp only [forS, h1]; exact h4
    · simp only [forS, h2]; exact h5
theorem foldl_rel {α σ τ : Type} {R : σ → τ → Prop} {f : σ → α → σ} {g : τ → α → τ} (l : List α) : ∀ (s : σ) (t : τ), R s t → (∀ x ∈ l, ∀ a b, R a b → R (f a x) (g b x)) → R (l.foldl f s) (l.foldl g t) := by
  induction l with
  | nil => intro s t h _; exact h
  | cons x l ih =>
    intro s t h st
    exact ih _ _ (st x (by simp) s t h) (fun y hy => st y (by simp [hy]))
def farL (v : Int) : Int := if v = -1 then 1099511627776 else v
def farR (n : Int) (v : Int) : Int := if v < 0 then n else v
def lureL (E : List (List Edge)) (d : List Int) (p : Int) (s : Int × Int × Int) (i : Nat) : Int × Int × Int :=
  if dA d p < farL (dA d (nx E p i)) ∧ s.2.2 < farL (dA d (nx E p i)) then (p, (i : Int), farL (dA d (nx E p i))) else s
def lureR (E : List (List Edge)) (d : List Int) (p : Int) (s : Int × Int × Int) (i : Nat) : Int × Int × Int :=
  if dA d p < farR d.length (dA d (nx E p i)) ∧ s.2.2 < farR d.length (dA d (nx E p i)) then (p, (i : Int), farR d.length (dA d (nx E p i))) else s
def LureRel (n : Int) (s t : Int × Int × Int) : Prop :=
  (s.2.2 = 0 ∧ t.2.2 = 0 ∧ t.1 = -1) ∨ (0 < s.2.2 ∧ 0 ≤ s.1 ∧ t.1 = s.1 ∧ t.2.1 = s.2.1 ∧ ((s.2.2 < n ∧ t.2.2 = s.2.2) ∨ (s.2.2 = 1099511627776 ∧ t.2.2 = n)))
section
variable {g : Graph} {d : List Int}
theorem lure_step (hg : GoodMap g d) {p : Int} (hp : 0 ≤ p ∧ p < g.Edges.length) (hpos : 0 < dA d p) {i : Nat} (hi : i < (rowOf g.Edges p).length) {s t : Int × Int × Int} (h : LureRel d.length s t) :
    LureRel d.length (lureL g.Edges d p s i) (lureR g.Edges d p t i) := by
  have hel := hg.el; have hdl := hg.dl; have hn2 := hg.n2
  have hto := hg.edges p i hp.1 hp.2 (by omega) (by omega)
  have hv := hg.val (p := nx g.Edges p i) ⟨hto.1, by omega⟩
  have hvp := hg.val (p := p) ⟨hp.1, by omega⟩
  have hf : (farL (dA d (nx g.Edges p i)) = 1099511627776 ∧ farR d.length (dA d (nx g.Edges p i)) = d.length) ∨ (0 ≤ farL (dA d (nx g.Edges p i)) ∧ farL (dA d (nx g.Edges p i)) < d.length ∧ farR d.length (dA d (nx g.Edges p i)) = farL (dA d (nx g.Edges p i))) := by
    unfold farL farR
    by_cases hneg : dA d (nx g.Edges p i) = -1
    · rw [if_pos hneg, if_pos (by omega)]; exact .inl ⟨rfl, rfl⟩
    · rw [if_neg hneg, if_neg (by omega)]; exact .inr ⟨by omega, by omega, rfl⟩
  unfold lureL lureR
  generalize farL (dA d (nx g.Edges p i)) = a at hf
  generalize farR d.length (dA d (nx g.Edges p i)) = b at hf
  generalize dA d p = u at hpos hvp
  obtain ⟨s1, s2, s3⟩ := s
  obtain ⟨t1, t2, t3⟩ := t
  unfold LureRel at h ⊢
  simp only at h ⊢
  by_cases hc : u < a ∧ s3 < a
  · have hc' : u < b ∧ t3 < b := by omega
    rw [if_pos hc, if_pos hc']
    exact .inr ⟨by simp only; omega, hp.1, rfl, rfl, by simp only; omega⟩
  · have hc' : ¬ (u < b ∧ t3 < b) := by omega
    rw [if_neg hc, if_neg hc']
    exact h
theorem inner_L (hg : GoodMap g d) {p : Nat} (hp : p < g.Edges.length) (s4 : Int × Int × Int) : forS (σ := (Int × Int × Int)) (fun i5 s5 =>
 (at? (rowOf g.Edges (p : Int)) (i5 : Int)).bind fun x94 =>
 (at? d x94.To).bind fun x95 =>
 (F65 x95).bind fun x96 =>
 (((at? d (p : Int)).bind fun x98 =>
 if decide (x98 < x96) then
 (some (decide (s5.2.2 < x96)))
 else
 (some false)) : Option (Bool)).bind fun v22 =>
 if v22 then
 (some ((p : Int), (i5 : Int), x96))
 else
 (some (s5.1, s5.2.1, s5.2.2))) (rowOf g.Edges (p : Int)).length 0 (s4.1, s4.2.1, s4.2.2) = some ((List.range (rowOf g.Edges (p : Int)).length).foldl (lureL g.Edges d p) s4) := by
  have hel := hg.el; have hdl := hg.dl
  obtain ⟨r, h1, h2⟩ := Tot.forS (σ := (Int × Int × Int)) (k := (rowOf g.Edges (p : Int)).length) (s := (s4.1, s4.2.1, s4.2.2)) (body := fun i5 s5 =>
     (at? (rowOf g.Edges (p : Int)) (i5 : Int)).bind fun x94 =>
     (at? d x94.To).bind fun x95 =>
     (F65 x95).bind fun x96 =>
     (((at? d (p : Int)).bind fun x98 =>
     if decide (x98 < x96) then
     (some (decide (s5.2.2 < x96)))
     else
     (some false)) : Option (Bool)).bind fun v22 =>
     if v22 then
     (some ((p : Int), (i5 : Int), x96))
     else
     (some (s5.1, s5.2.1, s5.2.2))) (fun i s => s = (List.range i).foldl (lureL g.Edges d p) s4) rfl (by
      intro j s hj hs
      subst hs
      have hto := hg.to (p := (p : Int)) (by omega) (List.getElem_mem hj)
      have hnx : (rowOf g.Edges (p : Int))[j].To = nx g.Edges p j := by unfold nx; rw [ix_nat z0 hj]
      have hatt : at? d (rowOf g.Edges (p : Int))[j].To = some (dA d (nx g.Edges p j)) := by rw [at?_ix 0 hto.1 hto.2, hnx]
      have hatp : at? d (p : Int) = some (dA d p) := at?_ix 0 (by omega) (by omega)
      have h65 : F65 (dA d (nx g.Edges p j)) = some (farL (dA d (nx g.Edges p j))) := by
        unfold F65 farL
        by_cases h : dA d (nx g.Edges p j) = -1
        · rw [if_pos (by simpa using h), if_pos h]
        · rw [if_neg (by simpa using h), if_neg h]
      rw [at?_lt hj, Option.bind_some, hatt, Option.bind_some, h65, Option.bind_some, hatp, Option.bind_some, List.range_succ, foldl_snoc]
      generalize (List.range j).foldl (lureL g.Edges d p) s4 = u
      refine ⟨lureL g.Edges d p u j, ?_, rfl⟩
      unfold lureL
      by_cases c1 : dA d p < farL (dA d (nx g.Edges p j))
      · rw [if_pos (by simpa using c1), Option.bind_some]
        by_cases c2 : u.2.2 < farL (dA d (nx g.Edges p j))
        · rw [if_pos (by simpa using c2), if_pos ⟨c1, c2⟩]
        · rw [if_neg (by simpa using c2), if_neg (fun h => c2 h.2)]
      · rw [if_neg (by simpa using c1), Option.bind_some, if_neg (by simp), if_neg (fun h => c1 h.1)])
  rw [h1, h2]
theorem inner_R (hg : GoodMap g d) {p : Nat} (hp : p < g.Edges.length) {S : List Bool} (hS : S.length = g.Edges.length) (s4 : Int × Int × Int) : Tot (whileO (σ := (Int × Int × Int × Int)) (ρ := (Int × Int × Int × Int)) (fun s5 =>
 (((at? g.Edges (p : Int)).bind fun x303 =>
 if decide (s5.2.2.2 < (x303.length : Int)) then
 ((at? S (p : Int)).bind fun x304 =>
 if x304 then
 ((at? d (p : Int)).bind fun x305 =>
 if decide (0 < x305) then
 (some (Sum.inl ()))
 else
 (some (Sum.inr (Sum.inr (s5.1, s5.2.1, s5.2.2.1, s5.2.2.2)))))
 else
 (some (Sum.inr (Sum.inr (s5.1, s5.2.1, s5.2.2.1, s5.2.2.2)))))
 else
 (some (Sum.inr (Sum.inr (s5.1, s5.2.1, s5.2.2.1, s5.2.2.2))))) : Option (Unit ⊕ _)).bind fun ov83 => onL ov83 fun v83 =>
 (at? g.Edges (p : Int)).bind fun x306 =>
 (at? x306 s5.2.2.2).bind fun x307 =>
 (at? d x307.To).bind fun x308 =>
 ((if decide (x308 < 0) then
 (some (d.length : Int))
 else
 (some x308)) : Option (Int)).bind fun v84 =>
 (((at? d (p : Int)).bind fun x310 =>
 if decide (x310 < v84) then
 (some (decide (s5.2.2.1 < v84)))
 else
 (some false)) : Option (Bool)).bind fun v85 =>
 if v85 then
 (some (Sum.inl ((p : Int), s5.2.2.2, v84, w64 (s5.2.2.2 + 1))))
 else
 (some (Sum.inl (s5.1, s5.2.1, s5.2.2.1, w64 (s5.2.2.2 + 1))))) (s4.1, s4.2.1, s4.2.2, 0))
   (fun r => (r.1, r.2.1, r.2.2.1) = if ix false S p = true ∧ 0 < dA d p then (List.range (rowOf g.Edges (p : Int)).length).foldl (lureR g.Edges d p) s4 else s4) := by
  have hel := hg.el; have hdl := hg.dl
  have hatE : at? g.Edges (p : Int) = some (rowOf g.Edges p) := at?_ix [] (by omega) (by omega)
  have hatS : at? S (p : Int) = some (ix false S p) := at?_ix false (by omega) (by omega)
  have hatp : at? d (p : Int) = some (dA d p) := at?_ix 0 (by omega) (by omega)
  have hlen := hg.len (p := (p : Int)) (by omega)
  by_cases hc : ix false S p = true ∧ 0 < dA d p
  · rw [if_pos hc]
    refine whileO_inv (fun i (s : Int × Int × Int × Int) => s.2.2.2 = i ∧ i ≤ (rowOf g.Edges (p : Int)).length ∧ (s.1, s.2.1, s.2.2.1) = (List.range i).foldl (lureR g.Edges d p) s4)
      (fun r : Int × Int × Int × Int => (r.1, r.2.1, r.2.2.1) = (List.range (rowOf g.Edges (p : Int)).length).foldl (lureR g.Edges d p) s4) (rowOf g.Edges (p : Int)).length 0 (s4.1, s4.2.1, s4.2.2, (0 : Int)) ⟨rfl, by omega, rfl⟩ ?_ ?_
    · rintro i ⟨s1, s2, s3, t⟩ _ hi ⟨h1, h2, h3⟩
      simp only at h1 h3 ⊢
      subst h1
      have hi' : i < (rowOf g.Edges (p : Int)).length := by omega
      have hto := hg.to (p := (p : Int)) (by omega) (List.getElem_mem hi')
      have hnx : (rowOf g.Edges (p : Int))[i].To = nx g.Edges p i := by unfold nx; rw [ix_nat z0 hi']
      have hatt : at? d (rowOf g.Edges (p : Int))[i].To = some (dA d (nx g.Edges p i)) := by rw [at?_ix 0 hto.1 hto.2, hnx]
      left
      rw [hatE, Option.bind_some, if_pos (by simpa using hi'), hatS, Option.bind_some, if_pos hc.1, hatp, Option.bind_some, if_pos (by simpa using hc.2)]
      simp only [Option.bind_some, onL]
      rw [at?_lt hi', Option.bind_some, hatt, Option.bind_some]
      have hfar : (if decide (dA d (nx g.Edges p i) < 0) then some (d.length : Int) else some (dA d (nx g.Edges p i))) = some (farR d.length (dA d (nx g.Edges p i))) := by
        unfold farR
        by_cases h : dA d (nx g.Edges p i) < 0
        · rw [if_pos (by simpa using h), if_pos h]
        · rw [if_neg (by simpa using h), if_neg h]
      rw [hfar, Option.bind_some, w64_eq (by omega) (by omega)]
      rw [List.range_succ, foldl_snoc, ← h3]
      unfold lureR
      simp only
      by_cases c1 : dA d p < farR d.length (dA d (nx g.Edges p i))
      · rw [if_pos (by simpa using c1), Option.bind_some]
        by_cases c2 : s3 < farR d.length (dA d (nx g.Edges p i))
        · rw [if_pos (by simpa using c2), if_pos ⟨c1, c2⟩]
          exact ⟨_, rfl, by simp only; omega, by omega, rfl⟩
        · rw [if_neg (by simpa using c2), if_neg (fun h => c2 h.2)]
          exact ⟨_, rfl, by simp only; omega, by omega, rfl⟩
      · rw [if_neg (by simpa using c1), Option.bind_some, if_neg (by simp), if_neg (fun h => c1 h.1)]
        exact ⟨_, rfl, by simp only; omega, by omega, rfl⟩
    · rintro ⟨s1, s2, s3, t⟩ ⟨h1, h2, h3⟩
      simp only at h1 h3 ⊢
      rw [hatE, Option.bind_some, if_neg (by simp; omega)]
      exact ⟨_, rfl, by simpa using h3⟩
  · rw [if_neg hc]
    refine ⟨(s4.1, s4.2.1, s4.2.2, 0), whileO_inr ?_, rfl⟩
    simp only
    rw [hatE, Option.bind_some]
    by_cases h0 : (0 : Int) < (rowOf g.Edges (p : Int)).length
    · rw [if_pos (by simpa using h0), hatS, Option.bind_some]
      by_cases h1 : ix false S p = true
      · rw [if_pos h1, hatp, Option.bind_some, if_neg (by simp only [decide_eq_true_eq]; exact fun h => hc ⟨h1, h⟩)]; rfl
      · rw [if_neg h1]; rfl
    · rw [if_neg (by simpa using h0)]; rfl
theorem F42_F43 (g : Graph) (d : List Int) : ∃ r, F42 g d = some r ∧ F43 g d = some r := by
  unfold F42 F43
  obtain ⟨⟨v, e⟩, h1, h2, h3⟩ := F57_spec g d
  obtain ⟨e', h4, h5⟩ := F21_spec g d
  simp only at h2 h3
  subst h2
  rw [h1, h4, Option.bind_some, Option.bind_some]
  rcases h3 with ⟨rfl, hg⟩ | ⟨rfl, hg⟩ <;> rcases h5 with ⟨rfl, hg'⟩ | ⟨rfl, hg'⟩
  rotate_left
  · exact (hg' hg).elim
  · exact (hg hg').elim
  · exact ⟨(0, 0, 60), by simp, by simp⟩
  have hel := hg.el; have hdl := hg.dl; have hn2 := hg.n2; have hn1 := hg.n1
  obtain ⟨S, s1, s2⟩ := F66_spec hg
  obtain ⟨S', s3, s4⟩ := F67_spec hg
  have := s2.uniq s4
  subst this
  simp only
  rw [if_neg (by simp), if_neg (by simp), s1, s3, Option.bind_some, Option.bind_some, s2.1, show d.length = g.Edges.length by omega]
  obtain ⟨a, b, w1, w2, w3⟩ := forS_inv2 (b := fun i4 (s4 : Int × Int × Int) =>
     (at? S (i4 : Int)).bind fun x75 =>
     ((if !x75 then
     (some (Sum.inr (s4.1, s4.2.1, s4.2.2)))
     else
     ((at? d (i4 : Int)).bind fun x77 =>
     if decide (x77 ≤ 0) then
     (some (Sum.inr (s4.1, s4.2.1, s4.2.2)))
     else
     (some (Sum.inl ())))) : Option (Unit ⊕ _)).bind fun ov18 => onL ov18 fun v18 =>
     (at? g.Edges (i4 : Int)).bind fun x78 =>
     (forS (σ := (Int × Int × Int)) (fun i5 s5 =>
     (at? x78 (i5 : Int)).bind fun x94 =>
     (at? d x94.To).bind fun x95 =>
     (F65 x95).bind fun x96 =>
     (((at? d (i4 : Int)).bind fun x98 =>
     if decide (x98 < x96) then
     (some (decide (s5.2.2 < x96)))
     else
     (some false)) : Option (Bool)).bind fun v22 =>
     if v22 then
     (some ((i4 : Int), (i5 : Int), x96))
     else
     (some (s5.1, s5.2.1, s5.2.2))) x78.length 0 (s4.1, s4.2.1, s4.2.2)).bind fun out5 =>
     some (out5.1, out5.2.1, out5.2.2)) (c := fun i1 (s4 : Int × Int × Int) =>
     (whileO (σ := (Int × Int × Int × Int)) (ρ := (Int × Int × Int × Int)) (fun s5 =>
     (((at? g.Edges (i1 : Int)).bind fun x303 =>
     if decide (s5.2.2.2 < (x303.length : Int)) then
     ((at? S (i1 : Int)).bind fun x304 =>
     if x304 then
     ((at? d (i1 : Int)).bind fun x305 =>
     if decide (0 < x305) then
     (some (Sum.inl ()))
     else
     (some (Sum.inr (Sum.inr (s5.1, s5.2.1, s5.2.2.1, s5.2.2.2)))))
     else
     (some (Sum.inr (Sum.inr (s5.1, s5.2.1, s5.2.2.1, s5.2.2.2)))))
     else
     (some (Sum.inr (Sum.inr (s5.1, s5.2.1, s5.2.2.1, s5.2.2.2))))) : Option (Unit ⊕ _)).bind fun ov83 => onL ov83 fun v83 =>
     (at? g.Edges (i1 : Int)).bind fun x306 =>
     (at? x306 s5.2.2.2).bind fun x307 =>
     (at? d x307.To).bind fun x308 =>
     ((if decide (x308 < 0) then
     (some (d.length : Int))
     else
     (some x308)) : Option (Int)).bind fun v84 =>
     (((at? d (i1 : Int)).bind fun x310 =>
     if decide (x310 < v84) then
     (some (decide (s5.2.2.1 < v84)))
     else
     (some false)) : Option (Bool)).bind fun v85 =>
     if v85 then
     (some (Sum.inl ((i1 : Int), s5.2.2.2, v84, w64 (s5.2.2.2 + 1))))
     else
     (some (Sum.inl (s5.1, s5.2.1, s5.2.2.1, w64 (s5.2.2.2 + 1))))) (s4.1, s4.2.1, s4.2.2, 0)).bind fun out5 =>
     some (out5.1, out5.2.1, out5.2.2.1)) (fun _ s t => LureRel d.length s t) g.Edges.length 0 (0, 0, 0) (-1, -1, 0) (.inl ⟨rfl, rfl, rfl⟩) (by
      intro j s t _ hj hR
      have hj' : j < g.Edges.length := by omega
      have hatE : at? g.Edges (j : Int) = some (rowOf g.Edges j) := at?_ix [] (by omega) (by omega)
      have hatS : at? S (j : Int) = some (ix false S j) := at?_ix false (by omega) (by rw [s2.1]; omega)
      have hatp : at? d (j : Int) = some (dA d j) := at?_ix 0 (by omega) (by omega)
      obtain ⟨r, r1, r2⟩ := inner_R hg hj' s2.1 t
      rw [r1, Option.bind_some, r2, hatS, Option.bind_some, hatp]
      simp only [Option.bind_some]
      by_cases h1 : ix false S j = true
      · by_cases h2 : 0 < dA d j
        · rw [if_neg (by simp [h1]), if_neg (by simp; omega), if_pos ⟨h1, h2⟩]
          simp only [Option.bind_some, onL]
          have hin := inner_L hg hj' s
          simp only [hatp, Option.bind_some] at hin
          rw [hatE, Option.bind_some, hin, Option.bind_some]
          refine ⟨_, _, rfl, rfl, ?_⟩
          exact foldl_rel _ s t hR (fun i hi a b hab => lure_step hg (by omega) h2 (List.mem_range.1 hi) hab)
        · rw [if_neg (by simp [h1]), if_pos (by simp; omega), if_neg (fun h => h2 h.2)]
          exact ⟨_, _, rfl, rfl, hR⟩
      · rw [if_pos (by simpa using h1), if_neg (fun h => h1 h.1)]
        exact ⟨_, _, rfl, rfl, hR⟩)
  refine Exists.intro (if a.2.2 = 0 then (0, 0, 3) else (a.1, a.2.1, 0)) ⟨?_, ?_⟩
  · refine Eq.trans (congrArg (fun o => Option.bind o _) w1) ?_
    simp only [Option.bind_some, beq_iff_eq]
    split <;> rfl
  · rw [show d.length = g.Edges.length by omega] at w2
    refine Eq.trans (congrArg (fun o => Option.bind o _) w2) ?_
    simp only [Option.bind_some, decide_eq_true_eq]
    rcases w3 with ⟨c1, c2, c3⟩ | ⟨c1, c2, c3, c4, _⟩
    · rw [if_pos (by omega), if_pos c1]
    · rw [if_neg (by omega), if_neg (by omega), c3, c4]
theorem F14_law (g : Graph) (d : List Int) : F14 g d = some true := by
  unfold F14
  obtain ⟨b, hb, _⟩ := F15_spec g
  rw [hb, Option.bind_some, F17_eq]
  cases b with
  | true => rfl
  | false =>
    obtain ⟨x, x1, x2⟩ := F38_spec g d
    obtain ⟨y, y1, y2⟩ := F21_spec g d
    have hxy : x = y := by
      rcases x2 with ⟨a, b⟩ | ⟨a, b⟩ <;> rcases y2 with ⟨a', b'⟩ | ⟨a', b'⟩
      · omega
      · exact (b' b).elim
      · exact (b b').elim
      · omega
    subst hxy
    obtain ⟨⟨w, w'⟩, w1, w2⟩ := F34_spec g d
    obtain ⟨⟨u, u'⟩, u1, u2⟩ := F39_spec g d
    have hwu : w = u ∧ w' = u' := by
      simp only at w2 u2
      rcases w2 with ⟨a, b, c⟩ | ⟨a, b, c⟩ <;> rcases u2 with ⟨a', b', c'⟩ | ⟨a', b', c'⟩
      · exact ⟨by rw [c, c'], by omega⟩
      · exact (b b').elim
      · exact (b' b).elim
      · exact ⟨c.uniq c', by omega⟩
    obtain ⟨rfl, rfl⟩ := hwu
    obtain ⟨⟨s, s'⟩, s1, s2⟩ := F33_spec g d
    obtain ⟨⟨t, t'⟩, t1, t2⟩ := F40_spec g d
    have hst : s = t ∧ s' = t' := by
      simp only at s2 t2
      rcases s2 with ⟨a, b, c⟩ | ⟨a, b, c⟩ <;> rcases t2 with ⟨a', b', c'⟩ | ⟨a', b', c'⟩
      · exact ⟨by rw [c, c'], by omega⟩
      · exact (b b').elim
      · exact (b' b).elim
      · exact ⟨c.uniq c', by omega⟩
    obtain ⟨rfl, rfl⟩ := hst
    obtain ⟨r, r1, r2, _⟩ := F35_F41 g d
    obtain ⟨q, q1, q2⟩ := F42_F43 g d
    simp only [Bool.false_eq_true, if_false, x1, y1, w1, u1, s1, t1, r1, r2, q1, q2, Option.bind_some, bne_self_eq_false, F20_self, Bool.not_true, onL, beq_self_eq_true, if_true]
end
end Go.Proofs.Ytogfongmnkmegaa.Pad
