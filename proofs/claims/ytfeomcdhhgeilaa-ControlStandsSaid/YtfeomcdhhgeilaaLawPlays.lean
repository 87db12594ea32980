/- The law of plays over the pure functions. -/
import Derived.Test.YtfeomcdhhgeilaaLawFrames
set_option linter.unusedVariables false
set_option linter.unusedSimpArgs false
namespace Go.Proofs.Ytfeomcdhhgeilaa.Pad
open Go

/-- Rows of what is known, tick by tick. -/
def KnownAre (p : Panel) (f : Nat → Nat → Int) (n : Nat) (r : List (List Int)) : Prop :=
  r.length = n ∧ ∀ (t : Nat) x, r[t]? = some x → (x.length : Int) = p.Sensors ∧ ∀ i, i < p.Sensors.toNat → x[i]? = some (f (t + 1) i)
theorem KnownAre.uniq {p : Panel} {f : Nat → Nat → Int} {n : Nat} {a b : List (List Int)} (h : KnownAre p f n a) (h' : KnownAre p f n b) : a = b := by
  have h1 := h.1; have h2 := h'.1
  apply List.ext_getElem?
  intro i
  by_cases hi : i < n
  · have e1 : a[i]? = some a[i] := List.getElem?_eq_getElem (by omega)
    have e2 : b[i]? = some b[i] := List.getElem?_eq_getElem (by omega)
    obtain ⟨x1, x2⟩ := h.2 i _ e1
    obtain ⟨y1, y2⟩ := h'.2 i _ e2
    rw [e1, e2]
    congr 1
    apply List.ext_getElem?
    intro q
    by_cases hq : q < p.Sensors.toNat
    · rw [x2 q hq, y2 q hq]
    · rw [List.getElem?_eq_none (by omega), List.getElem?_eq_none (by omega)]
  · rw [List.getElem?_eq_none (by omega), List.getElem?_eq_none (by omega)]
theorem known_push {p : Panel} {f : Nat → Nat → Int} {n : Nat} {a : List (List Int)} (h : KnownAre p f n a) {x : List Int} (hx : (x.length : Int) = p.Sensors ∧ ∀ i, i < p.Sensors.toNat → x[i]? = some (f (n + 1) i)) : KnownAre p f (n + 1) (a ++ [x]) := by
  refine ⟨by simp [h.1], fun t y hy => ?_⟩
  have h1 := h.1
  rcases Nat.lt_or_ge t n with hh | hh
  · rw [List.getElem?_append_left (by omega)] at hy
    exact h.2 t y hy
  · rw [List.getElem?_append_right (by omega)] at hy
    have : t = n := by
      rcases Nat.lt_or_ge (t - a.length) 1 with h' | h'
      · omega
      · rw [List.getElem?_eq_none (by simpa using h')] at hy; cases hy
    subst this
    rw [h1, Nat.sub_self] at hy
    simp only [List.getElem?_cons_zero, Option.some.injEq] at hy
    subst hy
    exact hx

theorem F30_err (p : Panel) (ticks : Int) (l : List Signal) : Tot (F30 p ticks l) (fun r => r.2.2 = err p ticks l ∧ (err p ticks l = 0 → KnownAre p (kv p l) ticks.toNat r.1 ∧ KnownAre p (ka p l) ticks.toNat r.2.1) ∧ (err p ticks l ≠ 0 → r.1 = [] ∧ r.2.1 = [])) := by
  unfold F30
  refine Tot.bind _ (F45_err p ticks l) fun r hr => ?_
  by_cases h : err p ticks l = 0
  case neg =>
    rw [if_pos (by simp [hr.1, h])]
    exact .pure ⟨hr.1, fun h' => absurd h' h, fun _ => ⟨rfl, rfl⟩⟩
  obtain ⟨hp, ht, hL⟩ := err_zero h
  have hB := hr.2 h
  have hl := hB.1
  rw [if_neg (by simp [hr.1, h])]
  refine Tot.bind _ (Tot.forS (fun t s => KnownAre p (kv p l) t s.1 ∧ KnownAre p (ka p l) t s.2) ⟨⟨rfl, fun t x h => by simp at h⟩, ⟨rfl, fun t x h => by simp at h⟩⟩ ?_) ?_
  · rintro t ⟨s1, s2⟩ ht' ⟨q1, q2⟩
    simp only at q1 q2 ⊢
    have l1 := q1.1; have l2 := q2.1
    obtain ⟨x, hx⟩ : ∃ x, r.1[t]? = some x := ⟨_, List.getElem?_eq_getElem (by omega)⟩
    have X := hB.2 t x hx
    rw [at?_nat, hx]
    simp only [Option.bind_some]
    refine Tot.eq (push?_le (by simp; omega)) ?_
    refine Tot.eq (push?_le (by simp; omega)) ?_
    exact .pure ⟨known_push q1 ⟨X.v, X.vok⟩, known_push q2 ⟨X.a, X.aok⟩⟩
  · rintro ⟨s1, s2⟩ ⟨q1, q2⟩
    simp only [hl] at q1 q2
    exact .pure ⟨h.symm, fun _ => ⟨q1, q2⟩, fun h' => absurd h h'⟩
theorem F31_err (p : Panel) (ticks : Int) (l : List Signal) : Tot (F31 p ticks l) (fun r => r.2.2 = err p ticks l ∧ (err p ticks l = 0 → KnownAre p (kv p l) ticks.toNat r.1 ∧ KnownAre p (ka p l) ticks.toNat r.2.1) ∧ (err p ticks l ≠ 0 → r.1 = [] ∧ r.2.1 = [])) := by
  unfold F31
  rw [F51_eq]
  simp only [Option.bind_some]
  by_cases h : err p ticks l = 0
  case neg =>
    rw [if_pos (by simp [h])]
    exact .pure ⟨rfl, fun h' => absurd h' h, fun _ => ⟨rfl, rfl⟩⟩
  obtain ⟨hp, ht, hL⟩ := err_zero h
  rw [if_neg (by simp [h])]
  refine Tot.bind _ (F52_spec hp ht.1 ht.2 (fun x hx => (hL.2 x hx).good.k1)) fun out ho => ?_
  refine Tot.eq (cnt?_le (by omega)) ?_
  have hl := ho.1
  refine Tot.bind _ (Tot.forS (fun t s => KnownAre p (kv p l) t s.1 ∧ KnownAre p (ka p l) t s.2) ⟨⟨rfl, fun t x h => by simp at h⟩, ⟨rfl, fun t x h => by simp at h⟩⟩ ?_) ?_
  · rintro t ⟨s1, s2⟩ ht' ⟨q1, q2⟩
    simp only at q1 q2 ⊢
    have l1 := q1.1; have l2 := q2.1
    obtain ⟨x, hx⟩ : ∃ x, out[t]? = some x := ⟨_, List.getElem?_eq_getElem (by omega)⟩
    have X := ho.2 t x hx
    rw [at?_nat, hx]
    simp only [Option.bind_some]
    refine Tot.eq (push?_le (by simp; omega)) ?_
    refine Tot.eq (push?_le (by simp; omega)) ?_
    exact .pure ⟨known_push q1 ⟨X.vl, X.vok⟩, known_push q2 ⟨X.al, X.aok⟩⟩
  · rintro ⟨s1, s2⟩ ⟨q1, q2⟩
    exact .pure ⟨h.symm, fun _ => ⟨q1, q2⟩, fun h' => absurd h h'⟩

theorem F29_self (a : List Int) : F29 a a = some true := by
  suffices hh : Tot (F29 a a) (fun r => r = true) by
    obtain ⟨r, e, rfl⟩ := hh; exact e
  unfold F29
  rw [if_neg (by simp)]
  refine Tot.bind _ (Tot.forN (fun _ _ => True) (fun _ => False) trivial ?_) ?_
  · intro j _ hj _
    rw [at?_lt hj]
    simp only [Option.bind_some]
    rw [if_neg (by simp)]
    exact .pure trivial
  · intro o ho
    exact Tot.onL ho (fun _ _ => .pure rfl) (fun _ h => h.elim)
theorem F32_self (a : List (List Int)) : F32 a a = some true := by
  suffices hh : Tot (F32 a a) (fun r => r = true) by
    obtain ⟨r, e, rfl⟩ := hh; exact e
  unfold F32
  rw [if_neg (by simp)]
  refine Tot.bind _ (Tot.forN (fun _ _ => True) (fun _ => False) trivial ?_) ?_
  · intro j _ hj _
    rw [at?_lt hj]
    simp only [Option.bind_some]
    rw [F29_self]
    exact .pure trivial
  · intro o ho
    exact Tot.onL ho (fun _ _ => .pure rfl) (fun _ h => h.elim)

theorem F8_law (p : Panel) (ticks : Int) (l : List Signal) : F8 p ticks l = some true := by
  unfold F8
  rw [F20_eq, F16_law]
  simp only [Option.bind_some]
  obtain ⟨r, e1, r1, r2, r3⟩ := F17_err p ticks l
  obtain ⟨q, e2, q1, q2, q3⟩ := F28_err p ticks l
  obtain ⟨u, e3, u1, u2, u3⟩ := F30_err p ticks l
  obtain ⟨v, e4, v1, v2, v3⟩ := F31_err p ticks l
  have ck : ∃ e, F15 p = some e ∧ F27 p = some e := by
    rcases checks p with ⟨_, a, b⟩ | ⟨_, a, b⟩
    · exact ⟨_, a, b⟩
    · exact ⟨_, a, b⟩
  obtain ⟨e, c1, c2⟩ := ck
  rw [c1, c2, e1, e2, e3, e4]
  simp only [Option.bind_some]
  have s1 : r.1 = q.1 := by
    by_cases h : err p ticks l = 0
    · exact RowsAre.uniq (r2 h) (q2 h)
    · rw [r3 h, q3 h]
  have s2 : u.1 = v.1 := by
    by_cases h : err p ticks l = 0
    · exact KnownAre.uniq (u2 h).1 (v2 h).1
    · rw [(u3 h).1, (v3 h).1]
  have s3 : u.2.1 = v.2.1 := by
    by_cases h : err p ticks l = 0
    · exact KnownAre.uniq (u2 h).2 (v2 h).2
    · rw [(u3 h).2, (v3 h).2]
  rw [r1, q1, u1, v1, s1, s2, s3, F29_self, F32_self, F32_self]
  simp [onL]
end Go.Proofs.Ytfeomcdhhgeilaa.Pad
