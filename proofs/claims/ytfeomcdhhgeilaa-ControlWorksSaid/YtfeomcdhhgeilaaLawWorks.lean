/- The law of the calm play, over the pure functions. -/
import Derived.Test.YtfeomcdhhgeilaaLawStands
set_option linter.unusedVariables false
set_option linter.unusedSimpArgs false
namespace Go.Proofs.Ytfeomcdhhgeilaa.Pad
open Go

theorem F25_law {l : List Signal} (h : l.length ≤ 1000) : Tot (F25 l [1, 6]) (fun r => r = l.filter fun x => x.Kind == 1 || x.Kind == 6) := by
  unfold F25
  refine Tot.bind _ (Tot.forS (fun j s => s = (l.take j).filter (fun x => x.Kind == 1 || x.Kind == 6)) rfl ?_) ?_
  · rintro j s hj rfl
    obtain ⟨y, hy⟩ : ∃ y, l[j]? = some y := ⟨_, List.getElem?_eq_getElem hj⟩
    have ey : at? l (j : Int) = some y := by rw [at?_nat]; exact hy
    have := List.length_filter_le (fun x : Signal => x.Kind == 1 || x.Kind == 6) (l.take j)
    have : (l.take j).length ≤ j := by simp; omega
    rw [take_next hy, List.filter_append, ey]
    generalize (l.take j).filter (fun x => x.Kind == 1 || x.Kind == 6) = base at *
    refine Tot.bind _ (Tot.forS (fun q s => s = base ++ (if (1 ≤ q ∧ y.Kind = 1) ∨ (2 ≤ q ∧ y.Kind = 6) then [y] else [])) (by simp) ?_) ?_
    · rintro q s hq rfl
      have hq : q = 0 ∨ q = 1 := by simp at hq; omega
      rcases hq with rfl | rfl
      · rw [show at? ([1, 6] : List Int) ((0 : Nat) : Int) = some 1 by rfl]
        simp only [Option.bind_some]
        refine Tot.ite (fun h => ?_) fun h => .pure ?_
        · have h : y.Kind = 1 := by simpa using h
          rw [if_neg (by omega)]
          refine Tot.eq (push?_le (by simp; omega)) (.pure ?_)
          rw [if_pos (by omega)]; simp
        · have h : y.Kind ≠ 1 := by simpa using h
          rw [if_neg (by omega), if_neg (by omega)]
      · rw [show at? ([1, 6] : List Int) ((1 : Nat) : Int) = some 6 by rfl]
        simp only [Option.bind_some]
        refine Tot.ite (fun h => ?_) fun h => .pure ?_
        · have h : y.Kind = 6 := by simpa using h
          rw [if_neg (by omega)]
          refine Tot.eq (push?_le (by simp; omega)) (.pure ?_)
          rw [if_pos (by omega)]; simp
        · have h : y.Kind ≠ 6 := by simpa using h
          by_cases h1 : y.Kind = 1
          · rw [if_pos (by omega), if_pos (by omega)]
          · rw [if_neg (by omega), if_neg (by omega)]
    · rintro s rfl
      refine .pure ?_
      congr 1
      by_cases h1 : y.Kind = 1
      · rw [if_pos (by simp [h1]), List.filter_cons_of_pos (by simp [h1]), List.filter_nil]
      · by_cases h6 : y.Kind = 6
        · rw [if_pos (by simp [h6]), List.filter_cons_of_pos (by simp [h6]), List.filter_nil]
        · rw [if_neg (by simp [h1, h6]), List.filter_cons_of_neg (by simp [h1, h6]), List.filter_nil]
  · rintro s rfl
    rw [List.take_length]
    exact .pure rfl

/-- Nothing takes the power. -/
theorem fold_power {t : Nat} : ∀ {l : List Signal} {s : Bool × List Int}, (∀ x ∈ l, x.Kind ≠ 4) → s.1 = true → (l.foldl (stp t) s).1 = true
  | [], _, _, h => h
  | y :: l, s, hl, h => by
    rw [List.foldl_cons]
    refine fold_power (fun x hx => hl x (by simp [hx])) ?_
    have := hl y (by simp)
    unfold stp
    by_cases a : y.At = (t : Int)
    · rw [if_pos a]
      by_cases k1 : y.Kind = 1
      · rw [if_pos k1]; exact h
      · rw [if_neg k1, if_neg this]
        by_cases k5 : y.Kind = 5
        · rw [if_pos k5]
        · rw [if_neg k5]; exact h
    · rw [if_neg a]; exact h
theorem env_power {l : List Signal} (hl : ∀ x ∈ l, x.Kind ≠ 4) (S : Nat) : ∀ t, (env l S t).1 = true
  | 0 => rfl
  | t + 1 => by unfold env; exact fold_power hl (env_power hl S t)
theorem has_none {l : List Signal} {k : Int} (hl : ∀ x ∈ l, x.Kind ≠ k) (t i : Nat) : hasL l t k i = false := by
  unfold hasL
  rw [List.any_eq_false]
  intro x hx
  simp [hl x hx]

/-- A door in a calm play. -/
theorem calm_door {p : Panel} (hp : GoodPanel p) {l : List Signal} (hl : ∀ x ∈ l, x.Kind = 1 ∨ x.Kind = 6) {d : Nat} {g : Gate} (hg : GoodGate p g) {t : Nat} (ht : (t : Int) < p.Limit) :
    sh p l d g (t + 1) = (!holds p l t g && (!hasL l t 6 d || sh p l d g t)) := by
  have hpw : ∀ u, pw p l u = true := fun u => env_power (fun x hx => by have := hl x hx; omega) _ (u + 1)
  have h2 : ∀ u i, hasL l u 2 i = false := fun u i => has_none (fun x hx => by have := hl x hx; omega) u i
  have h3 : hasL l t 3 d = false := has_none (fun x hx => by have := hl x hx; omega) t d
  have hlive : ∀ u i, live p l u i = true := fun u i => by unfold live; rw [hpw, h2]; rfl
  have hka : ∀ i, ka p l (t + 1) i = 0 := fun i => by unfold ka; rw [hlive]; rfl
  have hkv : ∀ i, kv p l (t + 1) i = sen p l t i := fun i => by unfold kv; rw [hlive]; rfl
  have hst : staleB p l t g = false := by
    unfold staleB
    rw [List.any_eq_false]
    intro x _
    rw [hka]
    have := hp.st0
    simp; omega
  have hf : failsB p l t g = !holds p l t g := by
    unfold failsB holds
    simp only [hkv, Bool.not_not]
  have hh : hears p l t d g = if holds p l t g then 2 else 1 := by
    unfold hears says dec
    rw [h3, hpw, hst, if_neg (show ¬ p.Limit ≤ (t : Int) by omega), hf]
    simp only [Bool.false_eq_true, if_false, if_true]
    cases holds p l t g <;> rfl
  have w0 := hg.w0
  have hlf : lf p l d g (t + 1) = if holds p l t g then 0 else g.Wait := by
    unfold lf nextL
    rw [hpw, hh]
    cases holds p l t g <;> simp
  show (pw p l t && (decide (0 < lf p l d g (t + 1)) && (!hasL l t 6 d || sh p l d g t))) = _
  rw [hpw, hlf]
  cases holds p l t g with
  | true => simp
  | false =>
    have : decide (0 < g.Wait) = true := decide_eq_true (by omega)
    simp [this]

theorem F6_law (p : Panel) (ticks : Int) (l : List Signal) : F6 p ticks l = some true := by
  suffices hh : Tot (F6 p ticks l) (fun r => r = true) by
    obtain ⟨r, e, rfl⟩ := hh; exact e
  unfold F6
  rw [F20_eq, F16_law]
  simp only [Option.bind_some]
  refine Tot.bind (Sum.elim (fun _ => l.length ≤ 200) (fun r => r = true)) ?_ ?_
  · exact Tot.ite (fun h => .pure rfl) fun h => Tot.ite (fun h => .pure rfl) fun h => .pure (by show l.length ≤ 200; simp at h; omega)
  intro o ho
  refine Tot.onL ho ?_ (fun r hr => hr)
  rintro _ h200
  refine Tot.bind _ (F25_law (by omega)) fun m hm => ?_
  have hk : ∀ x ∈ m, x.Kind = 1 ∨ x.Kind = 6 := by
    intro x hx
    rw [hm] at hx
    have := (List.mem_filter.1 hx).2
    simpa using this
  rw [F22_eq]
  simp only [Option.bind_some]
  refine Tot.ite (fun h => .pure rfl) fun h => ?_
  have h : err p ticks m = 0 := by simpa using h
  obtain ⟨hp, ht, hL⟩ := err_zero h
  have a := hp.s0; have b := hp.s1
  refine Tot.bind _ (F17_err p ticks m) fun r hr => ?_
  obtain ⟨rows, e⟩ := r
  obtain ⟨r1, r2, _⟩ := hr
  simp only at r1 r2 ⊢
  have hR := r2 h
  rw [h] at r1; subst r1
  have hl := hR.1
  rw [if_neg (by decide), if_neg (by simp; omega)]
  refine Tot.bind (Sum.elim (fun _ => True) (fun _ => False)) ?_ ?_
  case refine_2 =>
    intro o ho
    exact Tot.onL ho (fun _ _ => .pure rfl) (fun _ h => h.elim)
  refine whileO_inv (fun j (s : Int) => s = (j : Int) ∧ j ≤ ticks.toNat) _ ticks.toNat 0 _ ⟨rfl, by omega⟩ ?_ ?_
  · rintro t s _ htt ⟨rfl, h1⟩
    by_cases hc : (t : Int) < p.Limit
    case neg =>
      refine .inr ⟨.inl (t : Int), ?_, trivial⟩
      rw [if_pos (by simp; omega), if_neg (by simpa using hc)]; rfl
    refine .inl ⟨((t + 1 : Nat) : Int), ?_, rfl, by omega⟩
    rw [if_pos (by simp; omega), if_pos (by simpa using hc)]
    simp only [Option.bind_some, onL]
    rw [F24_eq a b (fun x hx => (hL.2 x hx).good.k1) (by omega)]
    simp only [Option.bind_some]
    suffices hh : ∀ (B : Nat → Unit → Option (Unit ⊕ (Int ⊕ (Int ⊕ Bool)))), (∀ d s, d < p.Doors.length → B d s = some (.inl ())) → forN B p.Doors.length 0 () = some (.inl ()) by
      have e1 : w64 ((t : Int) + 1) = ((t + 1 : Nat) : Int) := by rw [w64_eq (by omega) (by omega)]; omega
      refine (congrArg (fun o => Option.bind o _) (hh _ ?_)).trans ?_
      · intro d s hd
        obtain ⟨g, hg⟩ : ∃ g, p.Doors[d]? = some g := ⟨_, List.getElem?_eq_getElem hd⟩
        have G := hp.g g (List.mem_of_getElem? hg)
        obtain ⟨row, hrow⟩ : ∃ row, rows[t]? = some row := ⟨_, List.getElem?_eq_getElem (by omega)⟩
        have er : at? rows (t : Int) = some row := by rw [at?_nat]; exact hrow
        have b1 := bit_law (hR.2 t row hrow) hp hg
        rw [calm_door hp hk G hc] at b1
        rw [at?_nat, hg]
        simp only [Option.bind_some]
        rw [F23_sen G, er]
        simp only [Option.bind_some]
        rw [b1, F26_eq]
        simp only [Option.bind_some]
        cases holds p m t g <;> cases hasL m t 6 d <;> simp
      · simp only [Option.bind_some, onL, e1]
    intro B hB
    have : ∀ k i, i + k = p.Doors.length → forN B k i () = some (.inl ()) := by
      intro k
      induction k with
      | zero => intro i _; rfl
      | succ k ih =>
        intro i hi
        unfold forN
        rw [hB i () (by omega)]
        exact ih (i + 1) (by omega)
    exact this _ 0 (by omega)
  · rintro s ⟨rfl, h1⟩
    refine ⟨.inl ((0 + ticks.toNat : Nat) : Int), ?_, trivial⟩
    rw [if_neg (by simp; omega)]; rfl
end Go.Proofs.Ytfeomcdhhgeilaa.Pad
