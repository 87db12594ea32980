/- What the reference of control answers, by the same recursion. -/
import Derived.Test.YtfeomcdhhgeilaaLawPower
set_option linter.unusedVariables false
set_option linter.unusedSimpArgs false
namespace Go.Proofs.Ytfeomcdhhgeilaa.Pad
open Go

theorem F15_val (p : Panel) : Tot (F15 p) (fun e => e = 0 ∨ e = 80) := by
  unfold F15
  simp only [F43_eq, Option.bind_some]
  refine Tot.bind (Sum.elim (fun _ => True) (fun e => e = 80)) ?_ ?_
  · exact Tot.ite (fun h => .pure rfl) fun h1 => Tot.ite (fun h => .pure rfl) fun h2 => Tot.ite (fun h => .pure rfl) fun h3 => Tot.ite (fun h => .pure rfl) fun h4 => .pure trivial
  intro o ho
  refine Tot.onL ho ?_ (by rintro r rfl; exact .inr rfl)
  rintro _ _
  refine Tot.bind _ (Tot.forN (fun i _ => True) (fun r => r = 80) trivial ?_) ?_
  · intro j _ hj hI
    refine Tot.bind _ (Tot.atN hj) fun g hg => ?_
    refine Tot.bind (Sum.elim (fun _ => True) (fun e => e = .inr 80)) ?_ ?_
    · exact Tot.ite (fun h => .pure rfl) fun h1 => Tot.ite (fun h => .pure rfl) fun h2 => .pure trivial
    intro o ho
    refine Tot.onL ho ?_ (by rintro r rfl; rfl)
    rintro _ _
    refine Tot.bind _ (Tot.forN (fun i _ => True) (fun r => r = .inr 80) trivial ?_) ?_
    · intro q _ hq hJ
      refine Tot.bind _ (Tot.atN hq) fun x hx => ?_
      exact Tot.ite (fun h => .pure rfl) fun h1 => Tot.ite (fun h => .pure rfl) fun h2 => .pure trivial
    · intro o ho
      exact Tot.onL ho (fun _ _ => .pure trivial) (by rintro r rfl; rfl)
  · intro o ho
    exact Tot.onL ho (fun _ _ => .pure (.inl rfl)) (by rintro r rfl; exact .inr rfl)
theorem F27_val (p : Panel) : Tot (F27 p) (fun e => e = 0 ∨ e = 80) := by
  unfold F27
  simp only [F48_eq, Option.bind_some]
  refine Tot.bind (Sum.elim (fun _ => 0 ≤ p.Sensors ∧ p.Sensors ≤ 12) (fun e => e = 80)) ?_ ?_
  · refine Tot.ite (fun h => .pure rfl) fun h1 => Tot.ite (fun h => .pure rfl) fun h2 => Tot.ite (fun h => .pure rfl) fun h3 => Tot.ite (fun h => .pure rfl) fun h4 => .pure ?_
    simpa using h1
  intro o ho
  refine Tot.onL ho ?_ (by rintro r rfl; exact .inr rfl)
  rintro _ hs
  have hw : w64 (p.Sensors - 1) = p.Sensors - 1 := w64_eq (by omega) (by omega)
  refine Tot.bind _ (Tot.forN (fun i _ => True) (fun r => r = 80) trivial ?_) ?_
  · intro j _ hj hI
    refine Tot.bind _ (Tot.atN hj) fun g hg => ?_
    refine Tot.ite (fun h => .pure rfl) fun h1' => Tot.ite (fun h => .pure rfl) fun h2' => ?_
    refine Tot.eq (F50_eq (c := fun x => !(decide (0 ≤ x.Sensor ∧ x.Sensor ≤ p.Sensors - 1) && decide (0 ≤ x.Value ∧ x.Value ≤ 9))) fun x hx => ?_) ?_
    · unfold F49
      simp only [F48_eq, hw, Option.bind_some]
      by_cases hh : 0 ≤ x.Sensor ∧ x.Sensor ≤ p.Sensors - 1 <;> simp [hh]
    exact Tot.ite (fun h => .pure rfl) fun h3' => .pure trivial
  · intro o ho
    exact Tot.onL ho (fun _ _ => .pure (.inl rfl)) (by rintro r rfl; exact .inr rfl)

theorem F15_good {p : Panel} (h : GoodPanel p) : F15 p = some 0 := by
  suffices hh : Tot (F15 p) (fun r => r = 0) by
    obtain ⟨r, e, rfl⟩ := hh; exact e
  have h0 := h.s0; have h1 := h.s1; have h2 := h.d
  have hw : w64 (p.Sensors - 1) = p.Sensors - 1 := w64_eq (by omega) (by omega)
  unfold F15
  simp only [F43_eq, Option.bind_some, h.s0, h.s1, h.st0, h.st1, h.l0, h.l1, and_self, decide_true, Bool.not_true, Bool.false_eq_true, if_false]
  rw [if_neg (by simp; omega), hw]
  simp only [Option.bind_some, onL]
  refine Tot.bind _ (Tot.forN (fun _ _ => True) (fun _ => False) trivial ?_) ?_
  · intro j _ hj _
    refine Tot.bind _ (Tot.atN hj) fun g hg => ?_
    have G := h.g g (List.mem_of_getElem? hg)
    have gn := G.n
    rw [if_neg (by simp [G.w0, G.w1]), if_neg (by simp; omega)]
    simp only [Option.bind_some]
    refine Tot.bind _ (Tot.forN (fun _ _ => True) (fun _ => False) trivial ?_) ?_
    · intro q _ hq _
      refine Tot.bind _ (Tot.atN hq) fun x hx => ?_
      have X := G.s x (List.mem_of_getElem? hx)
      rw [if_neg (by simp; omega), if_neg (by simp; omega)]
      exact .pure trivial
    · intro o ho
      exact Tot.onL ho (fun _ _ => .pure trivial) (fun _ h => h.elim)
  · intro o ho
    exact Tot.onL ho (fun _ _ => .pure rfl) (fun _ h => h.elim)

/-- Check, of the program and of the reference. -/
theorem checks (p : Panel) : (GoodPanel p ∧ F15 p = some 0 ∧ F27 p = some 0) ∨ (¬GoodPanel p ∧ F15 p = some 80 ∧ F27 p = some 80) := by
  by_cases h : GoodPanel p
  · exact .inl ⟨h, F15_good h, F27_good h⟩
  · refine .inr ⟨h, ?_, ?_⟩
    · obtain ⟨e, h1, h2⟩ := F15_law p
      obtain ⟨e', h3, h4⟩ := F15_val p
      rw [h1] at h3; cases h3
      rcases h4 with rfl | rfl
      · exact absurd (h2 rfl) h
      · exact h1
    · obtain ⟨e, h1, h2⟩ := F27_law p
      obtain ⟨e', h3, h4⟩ := F27_val p
      rw [h1] at h3; cases h3
      rcases h4 with rfl | rfl
      · exact absurd (h2 rfl) h
      · exact h1

/-- The errors of a panel, ticks and signals. -/
noncomputable def err (p : Panel) (ticks : Int) (l : List Signal) : Int :=
  @ite _ (GoodPanel p) (Classical.propDecidable _) (if 0 ≤ ticks ∧ ticks ≤ 1000 then @ite _ (Legal p ticks l) (Classical.propDecidable _) 0 81 else 1) 80
theorem err_good {p : Panel} (h : GoodPanel p) (ticks : Int) (l : List Signal) : err p ticks l = if 0 ≤ ticks ∧ ticks ≤ 1000 then @ite _ (Legal p ticks l) (Classical.propDecidable _) 0 81 else 1 := by
  unfold err; rw [if_pos h]
theorem err_zero {p : Panel} {ticks : Int} {l : List Signal} (h : err p ticks l = 0) : GoodPanel p ∧ (0 ≤ ticks ∧ ticks ≤ 1000) ∧ Legal p ticks l := by
  unfold err at h
  split at h
  · rename_i h1
    split at h
    · rename_i h2
      split at h
      · rename_i h3; exact ⟨h1, h2, h3⟩
      · cases h
    · cases h
  · cases h
theorem err_ok {p : Panel} {ticks : Int} {l : List Signal} (h1 : GoodPanel p) (h2 : 0 ≤ ticks ∧ ticks ≤ 1000) (h3 : Legal p ticks l) : err p ticks l = 0 := by
  unfold err; rw [if_pos h1, if_pos h2, if_pos h3]

theorem F51_eq (p : Panel) (ticks : Int) (l : List Signal) : F51 p ticks l = some (err p ticks l) := by
  suffices hh : Tot (F51 p ticks l) (fun r => r = err p ticks l) by
    obtain ⟨r, e, rfl⟩ := hh; exact e
  unfold F51 F69
  rcases checks p with ⟨hp, h15, _⟩ | ⟨hp, h15, _⟩
  case inr =>
    rw [h15]
    simp only [Option.bind_some]
    rw [if_pos (by decide)]
    simp only [Option.bind_some]
    rw [if_pos (by decide)]
    refine .pure ?_
    unfold err; rw [if_neg hp]
  rw [h15, err_good hp]
  simp only [Option.bind_some]
  rw [if_neg (by decide), F43_eq]
  simp only [Option.bind_some]
  by_cases ht : 0 ≤ ticks ∧ ticks ≤ 1000
  case neg =>
    rw [if_neg ht, if_pos (by rw [decide_eq_false ht]; rfl)]
    simp only [Option.bind_some]
    rw [if_pos (by decide)]
    exact .pure rfl
  rw [if_pos ht, if_neg (by rw [decide_eq_true ht]; decide)]
  simp only [Option.bind_some]
  rw [if_neg (by decide)]
  have a := hp.s0; have b := hp.s1; have c := hp.d
  have w1 : w64 (ticks - 1) = ticks - 1 := w64_eq (by omega) (by omega)
  have w2 : w64 (p.Sensors - 1) = p.Sensors - 1 := w64_eq (by omega) (by omega)
  have w3 : w64 ((p.Doors.length : Int) - 1) = (p.Doors.length : Int) - 1 := w64_eq (by omega) (by omega)
  refine Tot.ite (fun h => .pure ?_) fun h => ?_
  · rw [if_neg]
    intro hl; have := hl.1; simp at h; omega
  simp only [F43_eq, Option.bind_some, w1, w2, w3]
  refine Tot.bind _ (Tot.forN (fun i _ => ∀ j, j < i → ∀ x, l[j]? = some x → SigOk p ticks x) (fun r => r = 81 ∧ ¬Legal p ticks l) (fun j hj => by omega) ?_) ?_
  · intro j _ hj hI
    refine Tot.bind _ (Tot.atN hj) fun x hx => ?_
    have key : Tot (if x.Kind == 1 then
        (if decide (0 ≤ x.Number ∧ x.Number ≤ p.Sensors - 1) then some (decide (0 ≤ x.Value ∧ x.Value ≤ 9)) else some false)
      else if x.Kind == 2 then
        (if decide (0 ≤ x.Number ∧ x.Number ≤ p.Sensors - 1) then some (x.Value == 0) else some false)
      else
        ((if x.Kind == 3 then some (x.Kind == 3) else some (x.Kind == 6) : Option Bool).bind fun v14 =>
        if v14 then (if decide (0 ≤ x.Number ∧ x.Number ≤ (p.Doors.length : Int) - 1) then some (x.Value == 0) else some false)
        else ((if x.Kind == 4 then some (x.Kind == 4) else some (x.Kind == 5) : Option Bool).bind fun v15 =>
          if v15 then (if x.Number == 0 then some (x.Value == 0) else some false) else some false)))
        (fun v => (v = true ∧ (0 ≤ x.At ∧ x.At ≤ ticks - 1)) ↔ SigOk p ticks x) := by
      unfold SigOk
      by_cases k1 : x.Kind = 1
      · simp only [k1, beq_self_eq_true, if_true]
        refine Tot.ite (fun h => .pure ?_) fun h => .pure ?_
        · simp at h; simp [h, and_comm]
        · simp at h; simp; omega
      by_cases k2 : x.Kind = 2
      · simp only [k2, beq_self_eq_true, if_true]
        refine Tot.ite (fun h => by simp at h) fun _ => ?_
        refine Tot.ite (fun h => .pure ?_) fun h => .pure ?_
        · simp at h; simp [h, and_comm]
        · simp at h; simp; omega
      rw [if_neg (by simpa using k1), if_neg (by simpa using k2)]
      by_cases k3 : x.Kind = 3 ∨ x.Kind = 6
      · have e : (if x.Kind == 3 then some (x.Kind == 3) else some (x.Kind == 6) : Option Bool) = some true := by
          rcases k3 with k | k <;> simp [k]
        rw [e]
        simp only [Option.bind_some, if_true]
        refine Tot.ite (fun h => .pure ?_) fun h => .pure ?_
        · simp at h; simp [h, k3, k1, k2, and_comm]
          omega
        · simp at h; simp [k1, k2, k3]; omega
      · have e : (if x.Kind == 3 then some (x.Kind == 3) else some (x.Kind == 6) : Option Bool) = some false := by
          simp only [not_or] at k3
          simp [k3.1, k3.2]
        rw [e]
        simp only [Option.bind_some, Bool.false_eq_true, if_false]
        by_cases k4 : x.Kind = 4 ∨ x.Kind = 5
        · have e : (if x.Kind == 4 then some (x.Kind == 4) else some (x.Kind == 5) : Option Bool) = some true := by
            rcases k4 with k | k <;> simp [k]
          rw [e]
          simp only [Option.bind_some, if_true]
          refine Tot.ite (fun h => .pure ?_) fun h => .pure ?_
          · simp at h; simp [h, k3, k1, k2, k4, and_comm]
          · simp at h; simp [k1, k2, k3, h]
        · have e : (if x.Kind == 4 then some (x.Kind == 4) else some (x.Kind == 5) : Option Bool) = some false := by
            simp only [not_or] at k4
            simp [k4.1, k4.2]
          rw [e]
          simp only [Option.bind_some, Bool.false_eq_true, if_false]
          refine .pure ?_
          simp [k1, k2, k3, k4]
    refine Tot.bind _ key fun v hv => ?_
    have no : ¬SigOk p ticks x → (81 : Int) = 81 ∧ ¬Legal p ticks l := fun hn => ⟨rfl, fun hl => hn (hl.2 x (List.mem_of_getElem? hx))⟩
    refine Tot.ite (fun h => .pure (no ?_)) fun h => Tot.ite (fun h' => .pure (no ?_)) fun h' => .pure ?_
    · intro hs; have := (hv.2 hs).1; simp [this] at h
    · intro hs; have := (hv.2 hs).2; simp at h'; omega
    · intro q hq y hy
      rcases Nat.lt_succ_iff_lt_or_eq.1 hq with h'' | rfl
      · exact hI q h'' y hy
      · rw [hx] at hy; cases hy
        simp at h h'
        exact hv.1 ⟨h, h'⟩
  · intro o ho
    refine Tot.onL ho (fun _ hI => .pure ?_) (fun r hr => by rw [if_neg hr.2]; exact hr.1)
    rw [if_pos]
    refine ⟨by simp at h; omega, fun x hx => ?_⟩
    obtain ⟨q, hq, e⟩ := List.getElem_of_mem hx
    exact hI q hq x (by rw [List.getElem?_eq_getElem hq, e])

theorem F70_eq (l : List Signal) (t : Nat) (k : Int) (i : Nat) : F70 l (t : Int) k (i : Int) = some (hasL l t k i) := by
  suffices hh : Tot (F70 l (t : Int) k (i : Int)) (fun r => r = hasL l t k i) by
    obtain ⟨r, e, rfl⟩ := hh; exact e
  unfold F70
  refine Tot.bind _ (Tot.forN (fun j _ => hasL (l.take j) t k i = false) (fun r => r = true ∧ hasL l t k i = true) rfl ?_) ?_
  · intro j _ hj hI
    obtain ⟨y, hy⟩ : ∃ y, l[j]? = some y := ⟨_, List.getElem?_eq_getElem hj⟩
    rw [at?_nat, hy]
    simp only [Option.bind_some]
    have hm := List.mem_of_getElem? hy
    have skip : ¬(y.At = (t : Int) ∧ y.Kind = k ∧ y.Number = (i : Int)) → hasL (l.take (j + 1)) t k i = false := by
      intro hn
      unfold hasL at hI ⊢
      rw [take_next hy, List.any_append, hI, List.any_cons, List.any_nil, decide_eq_false hn]; rfl
    refine Tot.ite (fun h1 => Tot.ite (fun h2 => Tot.ite (fun h3 => .pure ⟨rfl, ?_⟩) fun h3 => .pure (skip ?_)) fun h2 => .pure (skip ?_)) fun h1 => .pure (skip ?_)
    · simp at h1 h2 h3
      unfold hasL
      exact List.any_eq_true.2 ⟨y, hm, by simp [h1, h2, h3]⟩
    · simp at h3; exact fun h => h3 h.2.2
    · simp at h2; exact fun h => h2 h.2.1
    · simp at h1; exact fun h => h1 h.1
  · intro o ho
    refine Tot.onL ho (fun _ hI => .pure ?_) (fun r hr => by rw [hr.1, hr.2])
    rw [List.take_length] at hI
    exact hI.symm
theorem F26_eq (l : List Signal) (t i : Nat) : F26 l (t : Int) (i : Int) = some (hasL l t 6 i) := by
  suffices hh : Tot (F26 l (t : Int) (i : Int)) (fun r => r = hasL l t 6 i) by
    obtain ⟨r, e, rfl⟩ := hh; exact e
  unfold F26
  refine Tot.bind _ (Tot.forN (fun j _ => hasL (l.take j) t 6 i = false) (fun r => r = true ∧ hasL l t 6 i = true) rfl ?_) ?_
  · intro j _ hj hI
    obtain ⟨y, hy⟩ : ∃ y, l[j]? = some y := ⟨_, List.getElem?_eq_getElem hj⟩
    rw [at?_nat, hy]
    simp only [Option.bind_some]
    have hm := List.mem_of_getElem? hy
    have skip : ¬(y.At = (t : Int) ∧ y.Kind = 6 ∧ y.Number = (i : Int)) → hasL (l.take (j + 1)) t 6 i = false := by
      intro hn
      unfold hasL at hI ⊢
      rw [take_next hy, List.any_append, hI, List.any_cons, List.any_nil, decide_eq_false hn]; rfl
    refine Tot.ite (fun h1 => Tot.ite (fun h2 => Tot.ite (fun h3 => .pure ⟨rfl, ?_⟩) fun h3 => .pure (skip ?_)) fun h2 => .pure (skip ?_)) fun h1 => .pure (skip ?_)
    · simp at h1 h2 h3
      unfold hasL
      exact List.any_eq_true.2 ⟨y, hm, by simp [h1, h2, h3]⟩
    · simp at h3; exact fun h => h3 h.2.2
    · simp at h2; exact fun h => h2 h.1
    · simp at h1; exact fun h => h1 h.2.1
  · intro o ho
    refine Tot.onL ho (fun _ hI => .pure ?_) (fun r hr => by rw [hr.1, hr.2])
    rw [List.take_length] at hI
    exact hI.symm

theorem fold_len (t : Nat) : ∀ (l : List Signal) (s : Bool × List Int), (l.foldl (stp t) s).2.length = s.2.length
  | [], _ => rfl
  | y :: l, s => by
    rw [List.foldl_cons, fold_len t l]
    unfold stp
    split
    · split
      · simp
      · split
        · rfl
        · split <;> rfl
    · rfl
theorem env_len (l : List Signal) (S : Nat) : ∀ t, (env l S t).2.length = S
  | 0 => by simp [env]
  | t + 1 => by unfold env; rw [fold_len, env_len l S t]

/-- What the sensors sense. -/
theorem F24_eq {p : Panel} (h0 : 0 ≤ p.Sensors) (h1 : p.Sensors ≤ 12) {l : List Signal} (hl : ∀ x ∈ l, x.Kind = 1 → 0 ≤ x.Number ∧ x.Number < p.Sensors) {i : Nat} (hi : i ≤ 1000) :
    F24 p (i : Int) l = some (env l p.Sensors.toNat (i + 1)).2 := by
  suffices hh : Tot (F24 p (i : Int) l) (fun r => r = (env l p.Sensors.toNat (i + 1)).2) by
    obtain ⟨r, e, rfl⟩ := hh; exact e
  unfold F24
  refine Tot.eq (mk?_le h0 (by omega)) ?_
  refine Tot.bind (fun (s : List Int × Int) => s.1 = (env l p.Sensors.toNat (i + 1)).2) ?_ (fun s hs => .pure hs)
  refine whileO_inv (fun t (s : List Int × Int) => s.2 = (t : Int) ∧ s.1 = (env l p.Sensors.toNat t).2) _ (i + 1) 0 _ ⟨rfl, rfl⟩ ?_ ?_
  · rintro t ⟨b, s2⟩ _ ht ⟨e1, e2⟩
    simp only at e1 e2 ⊢
    subst e1
    have inner : Tot (forS (σ := (List Int)) (fun i7 s8 =>
       (((at? l (i7 : Int)).bind fun x166 =>
       if x166.At == (t : Int) then
       ((at? l (i7 : Int)).bind fun x167 =>
       some (x167.Kind == 1))
       else
       (some false)) : Option (Bool)).bind fun v28 =>
       if v28 then
       ((at? l (i7 : Int)).bind fun x168 =>
       (at? s8 x168.Number).bind fun x169 =>
       some (s8.set (x168.Number).toNat x168.Value))
       else
       (some s8)) l.length 0 b) (fun r => r = ((l.take l.length).foldl (stp t) (env l p.Sensors.toNat t)).2) := by
      refine Tot.forS (fun j b => b = ((l.take j).foldl (stp t) (env l p.Sensors.toNat t)).2) e2 ?_
      rintro j b hj rfl
      obtain ⟨y, hy⟩ : ∃ y, l[j]? = some y := ⟨_, List.getElem?_eq_getElem hj⟩
      have hlen : (((l.take j).foldl (stp t) (env l p.Sensors.toNat t)).2).length = p.Sensors.toNat := by rw [fold_len, env_len]
      rw [fold_next hy, at?_nat, hy]
      simp only [Option.bind_some]
      generalize (l.take j).foldl (stp t) (env l p.Sensors.toNat t) = F at hlen ⊢
      unfold stp
      by_cases hA : y.At = (t : Int)
      · by_cases k1 : y.Kind = 1
        · have hb := hl y (List.mem_of_getElem? hy) k1
          simp only [hA, k1, beq_self_eq_true, if_true, Option.bind_some]
          refine Tot.bind _ (Tot.at_ hb.1 (by rw [hlen]; omega)) fun _ _ => .pure rfl
        · by_cases k4 : y.Kind = 4
          · simp [hA, k4]; exact .pure rfl
          · by_cases k5 : y.Kind = 5
            · simp [hA, k4, k5]; exact .pure rfl
            · simp [hA, k4, k5, k1]; exact .pure rfl
      · simp [hA]; exact .pure rfl
    rw [List.take_length] at inner
    obtain ⟨r, e3, e4⟩ := inner
    refine .inl ⟨(r, w64 ((t : Int) + 1)), ?_, by show w64 ((t : Int) + 1) = _; rw [w64_eq (by omega) (by omega)]; omega, e4⟩
    rw [if_pos (by simp; omega)]
    rw [e3]; rfl
  · rintro ⟨b, s2⟩ ⟨e1, e2⟩
    simp only at e1 e2 ⊢
    rw [Nat.zero_add] at e1 e2
    exact ⟨(b, s2), by rw [if_neg (by simp; omega)], e2⟩

/-- Whether all literals hold. -/
theorem F23_eq {w : List Sense} {f : Nat → Int} {v : List Int} (h : ∀ x ∈ w, 0 ≤ x.Sensor ∧ v[x.Sensor.toNat]? = some (f x.Sensor.toNat)) : F23 w v = some (!w.any fun s => (f s.Sensor.toNat == s.Value) == s.Not) := by
  suffices hh : Tot (F23 w v) (fun r => r = !w.any fun s => (f s.Sensor.toNat == s.Value) == s.Not) by
    obtain ⟨r, e, rfl⟩ := hh; exact e
  unfold F23
  refine Tot.bind _ (Tot.forN (fun j _ => ((w.take j).any fun s => (f s.Sensor.toNat == s.Value) == s.Not) = false) (fun r => r = false ∧ (w.any fun s => (f s.Sensor.toNat == s.Value) == s.Not) = true) rfl ?_) ?_
  · intro j _ hj hI
    obtain ⟨y, hy⟩ : ∃ y, w[j]? = some y := ⟨_, List.getElem?_eq_getElem hj⟩
    have hm := List.mem_of_getElem? hy
    have H := h y hm
    rw [at?_nat, hy]
    simp only [Option.bind_some]
    rw [at?_of H.1 H.2]
    simp only [Option.bind_some]
    refine Tot.ite (fun h' => .pure ⟨rfl, List.any_eq_true.2 ⟨y, hm, h'⟩⟩) fun h' => .pure ?_
    rw [List.take_add_one, hy]
    show ((w.take j ++ [y]).any _) = false
    rw [List.any_append, hI]
    simp only [Bool.not_eq_true] at h'
    simp [h']
  · intro o ho
    refine Tot.onL ho (fun _ hI => .pure ?_) (fun r hr => by rw [hr.1, hr.2]; rfl)
    rw [List.take_length] at hI
    rw [hI]; rfl
end Go.Proofs.Ytfeomcdhhgeilaa.Pad
