/- The law of what is known, over the pure functions. -/
import Derived.Test.YtfeomcdhhgeilaaLawPlays
set_option linter.unusedVariables false
set_option linter.unusedSimpArgs false
namespace Go.Proofs.Ytfeomcdhhgeilaa.Pad
open Go

/-- What is known is what was sensed. -/
theorem kv_sen (p : Panel) (l : List Signal) (i : Nat) : ∀ t, (ka p l t i < t → kv p l t i = sen p l ((t : Int) - 1 - ka p l t i).toNat i) ∧ (ka p l t i = t → kv p l t i = 0)
  | 0 => ⟨fun h => by have := ka_le p l 0 i; omega, fun _ => rfl⟩
  | t + 1 => by
    have ih := kv_sen p l i t
    have b := ka_le p l t i
    have ek : ka p l (t + 1) i = if live p l t i then 0 else ka p l t i + 1 := rfl
    have ev : kv p l (t + 1) i = if live p l t i then sen p l t i else kv p l t i := rfl
    cases h : live p l t i with
    | true =>
      rw [h] at ek ev
      simp only [if_true] at ek ev
      refine ⟨fun _ => ?_, fun hh => ?_⟩
      · rw [ev, ek, show (((t + 1 : Nat) : Int) - 1 - 0).toNat = t by omega]
      · omega
    | false =>
      rw [h] at ek ev
      simp only [Bool.false_eq_true, if_false] at ek ev
      refine ⟨fun hh => ?_, fun hh => ?_⟩
      · rw [ev, ih.1 (by omega), ek]
        congr 1
        omega
      · rw [ev, ih.2 (by omega)]
theorem ka_zero (p : Panel) (l : List Signal) (t i : Nat) : (ka p l (t + 1) i == 0) = live p l t i := by
  have b := ka_le p l t i
  have ek : ka p l (t + 1) i = if live p l t i then 0 else ka p l t i + 1 := rfl
  cases h : live p l t i with
  | true => rw [ek, h]; rfl
  | false =>
    rw [ek, h]
    simp only [Bool.false_eq_true, if_false, beq_eq_false_iff_ne, ne_eq]
    omega
theorem sen_get (p : Panel) (l : List Signal) (t : Nat) {i : Nat} (hi : i < p.Sensors.toNat) : (env l p.Sensors.toNat (t + 1)).2[i]? = some (sen p l t i) := by
  unfold sen
  have := env_len l p.Sensors.toNat (t + 1)
  rw [List.getElem?_eq_getElem (by omega), List.getD_eq_getElem?_getD, List.getElem?_eq_getElem (by omega)]; rfl

theorem F9_law (p : Panel) (ticks : Int) (l : List Signal) : F9 p ticks l = some true := by
  suffices hh : Tot (F9 p ticks l) (fun r => r = true) by
    obtain ⟨r, e, rfl⟩ := hh; exact e
  unfold F9
  rw [F20_eq, F16_law, F22_eq]
  simp only [Option.bind_some]
  refine Tot.bind (Sum.elim (fun _ => err p ticks l = 0) (fun r => r = true)) ?_ ?_
  · exact Tot.ite (fun h => .pure rfl) fun h => Tot.ite (fun h => .pure rfl) fun h => .pure (by simpa using h)
  intro o ho
  refine Tot.onL ho ?_ (fun r hr => hr)
  rintro _ h
  obtain ⟨hp, ht, hL⟩ := err_zero h
  have a := hp.s0; have b := hp.s1
  refine Tot.bind _ (F30_err p ticks l) fun r hr => ?_
  obtain ⟨va, ag, e⟩ := r
  obtain ⟨r1, r2, _⟩ := hr
  simp only at r1 r2 ⊢
  obtain ⟨hv, ha⟩ := r2 h
  rw [h] at r1; subst r1
  have hv1 := hv.1; have ha1 := ha.1
  rw [if_neg (by decide), if_neg (by simp; omega), if_neg (by simp; omega)]
  simp only [Option.bind_some, onL]
  refine Tot.eq (cnt?_le (by omega)) ?_
  refine Tot.bind _ (Tot.forN (fun _ _ => True) (fun _ => False) trivial ?_) ?_
  case refine_2 =>
    intro o ho
    exact Tot.onL ho (fun _ _ => .pure rfl) (fun _ h => h.elim)
  intro t _ ht' _
  obtain ⟨x, hx⟩ : ∃ x, va[t]? = some x := ⟨_, List.getElem?_eq_getElem (by omega)⟩
  obtain ⟨y, hy⟩ : ∃ y, ag[t]? = some y := ⟨_, List.getElem?_eq_getElem (by omega)⟩
  obtain ⟨x1, x2⟩ := hv.2 t x hx
  obtain ⟨y1, y2⟩ := ha.2 t y hy
  have ex : at? va (t : Int) = some x := by rw [at?_nat]; exact hx
  have ey : at? ag (t : Int) = some y := by rw [at?_nat]; exact hy
  rw [ex, ey]
  simp only [Option.bind_some]
  rw [if_neg (by simp [x1]), if_neg (by simp [y1])]
  simp only [Option.bind_some]
  refine Tot.eq (cnt?_le (by omega)) ?_
  refine Tot.bind _ (Tot.forN (fun _ _ => True) (fun _ => False) trivial ?_) ?_
  case refine_2 =>
    intro o ho
    exact Tot.onL ho (fun _ _ => .pure trivial) (fun _ h => h.elim)
  intro i _ hi _
  have kb := ka_le p l (t + 1) i
  have kvs := kv_sen p l i (t + 1)
  have exi : at? x (i : Int) = some (kv p l (t + 1) i) := by rw [at?_nat]; exact x2 i hi
  have eyi : at? y (i : Int) = some (ka p l (t + 1) i) := by rw [at?_nat]; exact y2 i hi
  rw [exi, eyi]
  simp only [Option.bind_some]
  have ew : w64 ((t : Int) - ka p l (t + 1) i) = (t : Int) - ka p l (t + 1) i := w64_eq (by omega) (by omega)
  rw [ew, if_neg (by simp; omega), if_neg (by simp; omega)]
  simp only [Option.bind_some, onL]
  refine Tot.bind (fun v => v = kv p l (t + 1) i) ?_ ?_
  · refine Tot.ite (fun h => ?_) fun h => .pure ?_
    · have h : 0 ≤ (t : Int) - ka p l (t + 1) i := by simpa using h
      have et : (t : Int) - ka p l (t + 1) i = (((t : Int) - ka p l (t + 1) i).toNat : Int) := by omega
      rw [et, F24_eq a b (fun x hx => (hL.2 x hx).good.k1) (by omega)]
      simp only [Option.bind_some]
      rw [at?_nat, sen_get p l _ hi]
      refine .pure ?_
      rw [kvs.1 (by omega)]
      congr 2
      omega
    · have h : ¬0 ≤ (t : Int) - ka p l (t + 1) i := by simpa using h
      rw [kvs.2 (by omega)]
  rintro _ rfl
  refine Tot.bind _ (Tot.forS (fun j b => b = hasL (l.take j) t 2 i) rfl ?_) ?_
  · rintro j b hj rfl
    obtain ⟨z, hz⟩ : ∃ z, l[j]? = some z := ⟨_, List.getElem?_eq_getElem hj⟩
    have step : hasL (l.take (j + 1)) t 2 i = (hasL (l.take j) t 2 i || decide (z.At = (t : Int) ∧ z.Kind = 2 ∧ z.Number = (i : Int))) := by
      unfold hasL; rw [take_next hz, List.any_append, List.any_cons, List.any_nil, Bool.or_false]
    rw [at?_nat, hz, step]
    simp only [Option.bind_some]
    refine Tot.ite (fun h => .pure (by rw [h]; rfl)) fun h => ?_
    simp only [Bool.not_eq_true] at h
    rw [h]
    refine Tot.ite (fun h1 => Tot.ite (fun h2 => .pure ?_) fun h2 => .pure ?_) fun h1 => .pure ?_
    · simp at h1 h2
      by_cases h3 : z.Number = (i : Int) <;> simp [h1, h2, h3]
    · simp at h2; simp [h2]
    · simp at h1; simp [h1]
  rintro _ rfl
  rw [List.take_length]
  rw [if_neg (by simp)]
  rw [F33_eq l p.Sensors.toNat (by omega)]
  simp only [Option.bind_some]
  have epw : (env l p.Sensors.toNat (t + 1)).1 = pw p l t := rfl
  rw [epw, ka_zero]
  unfold live
  refine Tot.ite (fun h => ?_) fun h => ?_
  · rw [h]
    rw [if_neg (by simp)]
    exact .pure trivial
  · simp only [Bool.not_eq_true] at h
    rw [h]
    rw [if_neg (by simp)]
    exact .pure trivial
end Go.Proofs.Ytfeomcdhhgeilaa.Pad
