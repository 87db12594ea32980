/- The law of who stands in a door, over the pure functions. -/
import Derived.Test.YtfeomcdhhgeilaaLawOpens
set_option linter.unusedVariables false
set_option linter.unusedSimpArgs false
namespace Go.Proofs.Ytfeomcdhhgeilaa.Pad
open Go

theorem fold_free (c : Signal → Bool) (hc : ∀ s, c s = false → s.Kind ≠ 1 ∧ s.Kind ≠ 4 ∧ s.Kind ≠ 5) (t : Nat) : ∀ (l : List Signal) (s : Bool × List Int), (l.filter c).foldl (stp t) s = l.foldl (stp t) s
  | [], _ => rfl
  | y :: l, s => by
    rw [List.foldl_cons]
    cases h : c y with
    | true => rw [List.filter_cons_of_pos h, List.foldl_cons]; exact fold_free c hc t l _
    | false =>
      obtain ⟨k1, k4, k5⟩ := hc y h
      have e : stp t s y = s := by
        unfold stp
        rw [if_neg k1, if_neg k4, if_neg k5]
        split <;> rfl
      rw [List.filter_cons_of_neg (by simp [h]), e]
      exact fold_free c hc t l _
theorem env_free (c : Signal → Bool) (hc : ∀ s, c s = false → s.Kind ≠ 1 ∧ s.Kind ≠ 4 ∧ s.Kind ≠ 5) (l : List Signal) (S : Nat) : ∀ t, env (l.filter c) S t = env l S t
  | 0 => rfl
  | t + 1 => by
    unfold env
    rw [env_free c hc l S t, fold_free c hc]
theorem has_free {c : Signal → Bool} {k : Int} (hc : ∀ s, c s = false → s.Kind ≠ k) (l : List Signal) (t i : Nat) : hasL (l.filter c) t k i = hasL l t k i := by
  unfold hasL
  rw [List.any_filter]
  congr 1
  funext s
  cases h : c s with
  | true => simp
  | false =>
    have := hc s h
    simp [this]

theorem live_same {p : Panel} {l m : List Signal} (he : ∀ S t, env m S t = env l S t) (h2 : ∀ t i, hasL m t 2 i = hasL l t 2 i) (t i : Nat) : live p m t i = live p l t i := by unfold live pw; rw [he, h2]
section
variable {p : Panel} {l m : List Signal} (he : ∀ S t, env m S t = env l S t) (h2 : ∀ t i, hasL m t 2 i = hasL l t 2 i) 
include he h2
theorem kv_same (i : Nat) : ∀ t, kv p m t i = kv p l t i
  | 0 => rfl
  | t + 1 => by unfold kv sen; rw [live_same he h2 t i, he, kv_same i t]
theorem ka_same (i : Nat) : ∀ t, ka p m t i = ka p l t i
  | 0 => rfl
  | t + 1 => by unfold ka; rw [live_same he h2 t i, ka_same i t]
theorem hears_same (h3 : ∀ t i, hasL m t 3 i = hasL l t 3 i) (t d : Nat) (g : Gate) : hears p m t d g = hears p l t d g := by
  unfold hears says dec staleB failsB pw
  rw [h3, he]
  simp only [ka_same he h2, kv_same he h2]
theorem lf_same (h3 : ∀ t i, hasL m t 3 i = hasL l t 3 i) (d : Nat) (g : Gate) : ∀ t, lf p m d g t = lf p l d g t
  | 0 => rfl
  | t + 1 => by unfold lf; rw [lf_same h3 d g t, hears_same he h2 h3]; unfold pw; rw [he]
end

theorem F7_law (p : Panel) (ticks : Int) (l : List Signal) : F7 p ticks l = some true := by
  suffices hh : Tot (F7 p ticks l) (fun r => r = true) by
    obtain ⟨r, e, rfl⟩ := hh; exact e
  unfold F7
  rw [F20_eq, F16_law, F22_eq]
  simp only [Option.bind_some]
  refine Tot.bind (Sum.elim (fun _ => err p ticks l = 0) (fun r => r = true)) ?_ ?_
  · exact Tot.ite (fun h => .pure rfl) fun h => Tot.ite (fun h => .pure rfl) fun h => .pure (by simpa using h)
  intro o ho
  refine Tot.onL ho ?_ (fun r hr => hr)
  rintro _ h
  obtain ⟨hp, ht, hL⟩ := err_zero h
  refine Tot.bind _ (F17_err p ticks l) fun r hr => ?_
  obtain ⟨rows, e⟩ := r
  obtain ⟨r1, r2, _⟩ := hr
  simp only at r1 r2 ⊢
  have hR := r2 h
  rw [h] at r1; subst r1
  have hl := hR.1
  rw [if_neg (by decide)]
  -- those who do not stand
  refine Tot.bind _ (Tot.forS (fun j s => s = (l.take j).filter (fun x => x.Kind != 6)) rfl ?_) ?_
  · rintro j s hj rfl
    have h200 := hL.1
    obtain ⟨y, hy⟩ : ∃ y, l[j]? = some y := ⟨_, List.getElem?_eq_getElem hj⟩
    rw [take_next hy, List.filter_append, at?_nat, hy]
    simp only [Option.bind_some]
    refine Tot.ite (fun h => ?_) fun h => .pure ?_
    · have := List.length_filter_le (fun x : Signal => x.Kind != 6) (l.take j)
      have : (l.take j).length ≤ j := by simp; omega
      refine Tot.eq (push?_le (by simp only [List.length_singleton]; omega)) (.pure ?_)
      rw [List.filter_cons_of_pos (by simpa using h), List.filter_nil]
    · rw [List.filter_cons_of_neg (by simpa using h), List.filter_nil, List.append_nil]
  rintro m rfl
  rw [List.take_length]
  have hm : ∀ x ∈ l.filter (fun x : Signal => x.Kind != 6), x ∈ l := fun x hx => (List.mem_filter.1 hx).1
  have hLm : Legal p ticks (l.filter fun x : Signal => x.Kind != 6) := by
    have h200 := hL.1
    have := List.length_filter_le (fun x : Signal => x.Kind != 6) l
    exact ⟨by omega, fun x hx => hL.2 x (hm x hx)⟩
  have hk : ∀ k : Int, k ≠ 6 → ∀ s : Signal, (s.Kind != 6) = false → s.Kind ≠ k := by
    intro k hk s hs; simp at hs; omega
  have he : ∀ S t, env (l.filter fun x : Signal => x.Kind != 6) S t = env l S t := fun S t => env_free _ (fun s hs => ⟨hk 1 (by decide) s hs, hk 4 (by decide) s hs, hk 5 (by decide) s hs⟩) l S t
  have h2 : ∀ t i, hasL (l.filter fun x : Signal => x.Kind != 6) t 2 i = hasL l t 2 i := fun t i => has_free (hk 2 (by decide)) l t i
  have h3 : ∀ t i, hasL (l.filter fun x : Signal => x.Kind != 6) t 3 i = hasL l t 3 i := fun t i => has_free (hk 3 (by decide)) l t i
  have h6 : ∀ t i, hasL (l.filter fun x : Signal => x.Kind != 6) t 6 i = false := by
    intro t i
    unfold hasL
    rw [List.any_eq_false]
    intro s hs
    have := (List.mem_filter.1 hs).2
    simp at this
    simp [this]
  have free : ∀ (d : Nat) g t, sh p (l.filter fun x : Signal => x.Kind != 6) d g (t + 1) = (pw p l t && decide (0 < lf p l d g (t + 1))) := by
    intro d g t
    unfold sh
    rw [h6, lf_same he h2 h3]
    unfold pw; rw [he]; simp
  generalize l.filter (fun x : Signal => x.Kind != 6) = m at hLm free
  have hem := err_ok hp ht hLm
  refine Tot.bind _ (F17_err p ticks m) fun r hr => ?_
  obtain ⟨other, e⟩ := r
  obtain ⟨q1, q2, _⟩ := hr
  simp only at q1 q2 ⊢
  have hQ := q2 hem
  rw [hem] at q1; subst q1
  have hl2 := hQ.1
  rw [if_neg (by decide), if_neg (by simp; omega), if_neg (by simp; omega)]
  simp only [Option.bind_some, onL]
  refine Tot.eq (cnt?_le (by omega)) ?_
  refine Tot.bind _ (Tot.forN (fun _ _ => True) (fun _ => False) trivial ?_) ?_
  case refine_2 =>
    intro o ho
    exact Tot.onL ho (fun _ _ => .pure rfl) (fun _ h => h.elim)
  intro t _ ht' _
  refine Tot.bind _ (Tot.forN (fun _ _ => True) (fun _ => False) trivial ?_) ?_
  case refine_2 =>
    intro o ho
    exact Tot.onL ho (fun _ _ => .pure trivial) (fun _ h => h.elim)
  intro d _ hd _
  obtain ⟨g, hg⟩ : ∃ g, p.Doors[d]? = some g := ⟨_, List.getElem?_eq_getElem hd⟩
  obtain ⟨row, hrow⟩ : ∃ row, rows[t]? = some row := ⟨_, List.getElem?_eq_getElem (by omega)⟩
  obtain ⟨oth, hoth⟩ : ∃ row, other[t]? = some row := ⟨_, List.getElem?_eq_getElem (by omega)⟩
  have er : at? rows (t : Int) = some row := by rw [at?_nat]; exact hrow
  have eo : at? other (t : Int) = some oth := by rw [at?_nat]; exact hoth
  refine Tot.bind (fun v => v = sh p l d g t) ?_ ?_
  · refine Tot.ite (fun h => ?_) fun h => .pure ?_
    · have h : 0 < t := by simpa using h
      obtain ⟨prev, hprev⟩ : ∃ row, rows[t - 1]? = some row := ⟨_, List.getElem?_eq_getElem (by omega)⟩
      rw [w64_eq (by omega) (by omega), at?_of (x := prev) (by omega) (by rw [show ((t : Int) - 1).toNat = t - 1 by omega]; exact hprev)]
      simp only [Option.bind_some]
      rw [bit_law (hR.2 _ prev hprev) hp hg]
      refine .pure ?_
      rw [show t - 1 + 1 = t by omega]
    · have : t = 0 := by simp at h; omega
      subst this; rfl
  rintro _ rfl
  have b1 := bit_law (hR.2 t row hrow) hp hg
  have b2 := bit_law (hQ.2 t oth hoth) hp hg
  rw [free] at b2
  have unf : sh p l d g (t + 1) = (pw p l t && (decide (0 < lf p l d g (t + 1)) && (!hasL l t 6 d || sh p l d g t))) := rfl
  rw [unf] at b1
  rw [F26_eq, er, eo]
  simp only [Option.bind_some]
  rw [b1, b2]
  simp only [Option.bind_some]
  cases pw p l t <;> cases decide (0 < lf p l d g (t + 1)) <;> cases hasL l t 6 d <;> cases sh p l d g t <;> exact .pure trivial
end Go.Proofs.Ytfeomcdhhgeilaa.Pad
