/- What begin makes of a good panel. -/
import Derived.Test.YtfeomcdhhgeilaaLawCheck
set_option linter.unusedVariables false
set_option linter.unusedSimpArgs false
namespace Go.Proofs.Ytfeomcdhhgeilaa.Pad
open Go

structure GoodSig (p : Panel) (ticks : Int) (s : Signal) : Prop where
  a0 : 0 ≤ s.At
  a1 : s.At < ticks
  k1 : s.Kind = 1 → 0 ≤ s.Number ∧ s.Number < p.Sensors
  k2 : s.Kind = 2 → 0 ≤ s.Number ∧ s.Number < p.Sensors
  k3 : s.Kind = 3 → 0 ≤ s.Number ∧ s.Number < p.Doors.length
  k6 : s.Kind = 6 → 0 ≤ s.Number ∧ s.Number < p.Doors.length

theorem F64_law {p : Panel} (hp : GoodPanel p) {ticks : Int} (h0 : 0 ≤ ticks) (h1 : ticks ≤ 1000) (s : Signal) : Tot (F64 p ticks s) (fun b => b = true → GoodSig p ticks s) := by
  have a := hp.s0; have b := hp.s1; have c := hp.d
  have w1 : w64 (ticks - 1) = ticks - 1 := w64_eq (by omega) (by omega)
  have w2 : w64 (p.Sensors - 1) = p.Sensors - 1 := w64_eq (by omega) (by omega)
  have w3 : w64 ((p.Doors.length : Int) - 1) = (p.Doors.length : Int) - 1 := w64_eq (by omega) (by omega)
  unfold F64
  simp only [F48_eq, w1, w2, w3, Option.bind_some]
  refine Tot.ite (fun h => .pure (fun h => by cases h)) fun hA => ?_
  simp only [Bool.not_eq_true', decide_eq_false_iff_not, Classical.not_not] at hA
  refine Tot.ite (fun hK => ?_) fun hK1 => Tot.ite (fun hK => ?_) fun hK2 => ?_
  · have hK : s.Kind = 1 := by simpa using hK
    refine Tot.ite (fun h => .pure fun _ => ?_) fun h => .pure (fun h => by cases h)
    simp only [decide_eq_true_eq] at h
    exact ⟨hA.1, by omega, fun _ => by omega, fun h => by omega, fun h => by omega, fun h => by omega⟩
  · have hK : s.Kind = 2 := by simpa using hK
    refine Tot.ite (fun h => .pure fun _ => ?_) fun h => .pure (fun h => by cases h)
    simp only [decide_eq_true_eq] at h
    exact ⟨hA.1, by omega, fun h => by omega, fun _ => by omega, fun h => by omega, fun h => by omega⟩
  · have e1 : s.Kind ≠ 1 := by simpa using hK1
    have e2 : s.Kind ≠ 2 := by simpa using hK2
    refine Tot.bind (fun v => v = decide (s.Kind = 3 ∨ s.Kind = 6)) ?_ ?_
    · refine Tot.ite (fun h => .pure ?_) fun h => .pure ?_
      · have : s.Kind = 3 := by simpa using h
        simp [this]
      · have : s.Kind ≠ 3 := by simpa using h
        simp only [this, false_or]
        by_cases h6 : s.Kind = 6 <;> simp [h6]
    rintro _ rfl
    refine Tot.ite (fun hK => ?_) fun hK3 => ?_
    · simp only [decide_eq_true_eq] at hK
      refine Tot.ite (fun h => .pure fun _ => ?_) fun h => .pure (fun h => by cases h)
      simp only [decide_eq_true_eq] at h
      exact ⟨hA.1, by omega, fun h => by omega, fun h => by omega, fun _ => by omega, fun _ => by omega⟩
    · simp only [decide_eq_true_eq] at hK3
      refine Tot.bind (fun _ => True) ?_ ?_
      · exact Tot.ite (fun h => .pure trivial) fun h => .pure trivial
      intro v _
      refine Tot.ite (fun h => Tot.ite (fun h => .pure ?_) fun h => .pure (fun h => by cases h)) fun h => .pure (fun h => by cases h)
      intro _
      exact ⟨hA.1, by omega, fun h => by omega, fun h => by omega, fun h => by omega, fun h => by omega⟩

theorem F62_law {l : List Signal} {b : Signal → Option Bool} {Q : Signal → Prop} (h : ∀ x ∈ l, Tot (b x) (fun r => r = false → Q x)) : Tot (F62 l b) (fun r => r = false → ∀ x ∈ l, Q x) := by
  unfold F62 F75
  refine Tot.bind (fun n => n < 0 → ∀ x ∈ l, Q x) ?_ (fun n hn => .pure (fun h => hn (by simpa using h)))
  refine Tot.bind _ (Tot.forN (fun i _ => ∀ j, j < i → ∀ x, l[j]? = some x → Q x) (fun r => 0 ≤ r) (fun j hj => by omega) ?_) ?_
  · intro j _ hj hI
    refine Tot.bind _ (Tot.atN hj) fun x hx => ?_
    refine Tot.bind _ (h x (List.mem_of_getElem? hx)) fun r hr => ?_
    refine Tot.ite (fun h => .pure (by show (0 : Int) ≤ _; omega)) fun h => .pure ?_
    intro q hq y hy
    rcases Nat.lt_succ_iff_lt_or_eq.1 hq with h | rfl
    · exact hI q h y hy
    · rw [hx] at hy; cases hy; exact hr (by simpa using h)
  · intro o ho
    refine Tot.onL ho (fun _ hI => .pure fun _ x hx => ?_) (fun r hr h => by omega)
    obtain ⟨q, hq, e⟩ := List.getElem_of_mem hx
    exact hI q hq x (by rw [List.getElem?_eq_getElem hq, e])

theorem F50_tot {l : List Sense} {b : Sense → Option Bool} (h : ∀ x ∈ l, Tot (b x) (fun _ => True)) : Tot (F50 l b) (fun _ => True) := by
  unfold F50 F68
  refine Tot.bind (fun _ => True) ?_ (fun n hn => .pure trivial)
  refine Tot.bind _ (Tot.forN (fun i _ => True) (fun r => True) trivial ?_) ?_
  · intro j _ hj hI
    refine Tot.bind _ (Tot.atN hj) fun x hx => ?_
    refine Tot.bind _ (h x (List.mem_of_getElem? hx)) fun r hr => ?_
    exact Tot.ite (fun h => .pure trivial) fun h => .pure trivial
  · intro o ho
    exact Tot.onL ho (fun _ hI => .pure trivial) (fun r hr => trivial)

/-- What holds of a tick. -/
structure GoodTick (p : Panel) (x : Control_tick) : Prop where
  v : (x.values.length : Int) = p.Sensors
  a : (x.ages.length : Int) = p.Sensors
  h : x.heard.length = p.Doors.length
  s : x.said.length = p.Doors.length
  st : x.stood.length = p.Doors.length

theorem F66_law {p : Panel} {x : Control_tick} (hv : (x.values.length : Int) = p.Sensors) (ha : (x.ages.length : Int) = p.Sensors) {g : Gate} (hg : GoodGate p g) (t : Int) : Tot (F66 x p t g) (fun _ => True) := by
  unfold F66
  refine Tot.ite (fun _ => .pure trivial) fun _ => ?_
  refine Tot.bind _ (F50_tot fun s hs => ?_) fun b _ => ?_
  · have := hg.s s hs
    unfold F76
    exact Tot.bind _ (Tot.at_ (by omega) (by omega)) fun _ _ => .pure trivial
  refine Tot.ite (fun _ => .pure trivial) fun _ => ?_
  refine Tot.bind _ (F50_tot fun s hs => ?_) fun b _ => ?_
  · have := hg.s s hs
    unfold F77
    exact Tot.bind _ (Tot.at_ (by omega) (by omega)) fun _ _ => .pure trivial
  exact Tot.ite (fun _ => .pure trivial) fun _ => .pure trivial

/-- The ticks that begin answers with: each is good, and what is lost is not heard. -/
def Begun (p : Panel) (l : List Signal) (n : Nat) (out : List Control_tick) : Prop :=
  out.length = n ∧ ∀ (t : Nat) x, out[t]? = some x → GoodTick p x ∧ ∀ s ∈ l, s.At = (t : Int) → s.Kind = 3 → x.heard[s.Number.toNat]? = some 0

theorem F45_law {p : Panel} (hp : GoodPanel p) {ticks : Int} (h0 : 0 ≤ ticks) (h1 : ticks ≤ 1000) (l : List Signal) :
    Tot (F45 p ticks l) (fun r => r.2 = 0 → Begun p l ticks.toNat r.1) := by
  have a := hp.s0; have b := hp.s1; have c := hp.d
  unfold F45
  rw [F27_good hp]
  simp only [Option.bind_some]
  rw [if_neg (by simp)]
  simp only [F48_eq, Option.bind_some]
  rw [if_neg (by simp [h0, h1])]
  refine Tot.bind (Sum.elim (fun _ => ∀ x ∈ l, GoodSig p ticks x) (fun r => r.2 = 81)) ?_ ?_
  · refine Tot.ite (fun h => .pure rfl) fun h => ?_
    refine Tot.bind _ (F62_law (Q := GoodSig p ticks) fun x hx => ?_) fun r hr => ?_
    · unfold F63
      refine Tot.bind _ (F64_law hp h0 h1 x) fun r hr => .pure fun h => hr (by simpa using h)
    · exact Tot.ite (fun h => .pure rfl) fun h => .pure (hr (by simpa using h))
  intro o ho
  refine Tot.onL ho ?_ (fun r hr h => by omega)
  intro _ hS
  refine Tot.eq (mk?_le a (by omega)) ?_
  refine Tot.eq (cnt?_le (by omega)) ?_
  have D8 : (0 : Int) ≤ (p.Doors.length : Int) ∧ (p.Doors.length : Int) ≤ 2147483648 := by omega
  refine Tot.bind _ (Tot.forS (fun i s => Begun p l i s.1 ∧ (s.2.2.1.length : Int) = p.Sensors ∧ (s.2.2.2.1.length : Int) = p.Sensors ∧ (s.2.2.2.2.length : Int) = p.Sensors) ?_ ?_) ?_
  · refine ⟨⟨rfl, fun t x h => by simp at h⟩, ?_, ?_, ?_⟩ <;> simp <;> omega
  · rintro t ⟨out, pw, se, va, ag⟩ ht ⟨hB, hs1, hs2, hs3⟩
    simp only at hB hs1 hs2 hs3 ⊢
    refine Tot.eq (mk?_le a (by omega)) ?_
    refine Tot.eq (mk?_le D8.1 D8.2) ?_
    refine Tot.eq (mk?_le D8.1 D8.2) ?_
    refine Tot.eq (mk?_le D8.1 D8.2) ?_
    refine Tot.bind _ (Tot.forS (fun j s => (s.2.1.length : Int) = p.Sensors ∧ (s.2.2.1.length : Int) = p.Sensors ∧ s.2.2.2.1.length = p.Doors.length ∧ s.2.2.2.2.length = p.Doors.length ∧
        ∀ q, q < j → ∀ y, l[q]? = some y → y.At = (t : Int) → y.Kind = 3 → s.2.2.2.2[y.Number.toNat]? = some true) ?_ ?_) ?_
    · refine ⟨hs1, ?_, ?_, ?_, fun q hq => by omega⟩ <;> simp <;> omega
    · rintro j ⟨pw', se', mu, st, mi⟩ hj ⟨e1, e2, e3, e4, e5⟩
      simp only at e1 e2 e3 e4 e5 ⊢
      refine Tot.bind _ (Tot.atN hj) fun y hy => ?_
      have G := hS y (List.mem_of_getElem? hy)
      have step : ∀ {mi' : List Bool}, (y.At = (t : Int) → y.Kind = 3 → mi'[y.Number.toNat]? = some true) → (∀ n : Nat, mi[n]? = some true → mi'[n]? = some true) →
          ∀ q, q < j + 1 → ∀ z, l[q]? = some z → z.At = (t : Int) → z.Kind = 3 → mi'[z.Number.toNat]? = some true := by
        intro mi' hm1 hm2 q hq z hz ha hk
        rcases Nat.lt_succ_iff_lt_or_eq.1 hq with h | rfl
        · exact hm2 _ (e5 q h z hz ha hk)
        · rw [hy] at hz; cases hz; exact hm1 ha hk
      refine Tot.ite (fun h => .pure ⟨e1, e2, e3, e4, step (fun hh => absurd hh (by simpa using h)) (fun _ h => h)⟩) fun hAt => ?_
      refine Tot.ite (fun h => ?_) fun k1 => Tot.ite (fun h => ?_) fun k2 => Tot.ite (fun h => ?_) fun k3 => ?_
      · have hk : y.Kind = 1 := by simpa using h
        have := G.k1 hk
        refine Tot.bind _ (Tot.at_ (by omega) (by omega)) fun _ _ => .pure ⟨by simpa using e1, e2, e3, e4, step (fun _ hh => by omega) (fun _ h => h)⟩
      · have hk : y.Kind = 2 := by simpa using h
        have := G.k2 hk
        refine Tot.bind _ (Tot.at_ (by omega) (by omega)) fun _ _ => .pure ⟨e1, by simpa using e2, e3, e4, step (fun _ hh => by omega) (fun _ h => h)⟩
      · have hk : y.Kind = 3 := by simpa using h
        have := G.k3 hk
        refine Tot.bind _ (Tot.at_ (by omega) (by omega)) fun _ _ => .pure ⟨e1, e2, e3, by simpa using e4, step (fun _ _ => ?_) (fun n hn => ?_)⟩
        · rw [List.getElem?_set_self (by omega)]
        · rw [List.getElem?_set]
          split
          · rename_i h; subst h; rw [if_pos (by omega)]
          · exact hn
      · have kn : y.Kind ≠ 3 := by simpa using k3
        have stp := step (mi' := mi) (fun _ hh => absurd hh kn) (fun _ h => h)
        refine Tot.ite (fun h => .pure ⟨e1, e2, e3, e4, stp⟩) fun k4 => Tot.ite (fun h => .pure ⟨e1, e2, e3, e4, stp⟩) fun k5 => Tot.ite (fun h => ?_) fun k6 => .pure ⟨e1, e2, e3, e4, stp⟩
        have hk : y.Kind = 6 := by simpa using h
        have := G.k6 hk
        exact Tot.bind _ (Tot.at_ (by omega) (by omega)) fun _ _ => .pure ⟨e1, e2, by simpa using e3, e4, stp⟩
    rintro ⟨pw', se', mu, st, mi⟩ ⟨e1, e2, e3, e4, e5⟩
    simp only at e1 e2 e3 e4 e5 ⊢
    refine Tot.bind _ (Tot.forS (fun j s => (s.1.length : Int) = p.Sensors ∧ (s.2.length : Int) = p.Sensors) ⟨hs2, hs3⟩ ?_) ?_
    · rintro j ⟨va', ag'⟩ hj ⟨f1, f2⟩
      simp only at f1 f2 ⊢
      refine Tot.bind _ (Tot.at_ (by omega) (by omega)) fun x313 _ => ?_
      refine Tot.bind _ (Tot.at_ (by omega) (by omega)) fun x314 _ => ?_
      refine Tot.bind (fun _ => True) ?_ fun v83 _ => ?_
      · refine Tot.ite (fun _ => ?_) fun _ => .pure trivial
        exact Tot.bind _ (Tot.at_ (by omega) (by omega)) fun _ _ => .pure trivial
      refine Tot.ite (fun _ => ?_) fun _ => .pure ⟨f1, by simpa using f2⟩
      refine Tot.bind _ (Tot.at_ (by omega) (by omega)) fun x317 _ => ?_
      refine Tot.bind _ (Tot.at_ (by omega) (by omega)) fun x318 _ => ?_
      refine Tot.bind _ (Tot.at_ (by omega) (by simp; omega)) fun x319 _ => ?_
      exact .pure ⟨by simpa using f1, by simpa using f2⟩
    rintro ⟨va', ag'⟩ ⟨f1, f2⟩
    simp only at f1 f2 ⊢
    refine Tot.eq (push?_le (by simp; omega)) ?_
    refine Tot.eq (push?_le (by simp; omega)) ?_
    simp only [List.nil_append]
    refine Tot.bind _ (Tot.forS (fun j s => s.1.length = p.Doors.length ∧ s.2.length = p.Doors.length ∧ ∀ d, d < p.Doors.length → j ≤ d ∨ mi[d]? = some true → s.2[d]? = some 0) ?_ ?_) ?_
    · refine ⟨by simp, by simp, fun d hd _ => ?_⟩
      simp [List.getElem?_replicate, hd]
    · rintro j ⟨sa, he⟩ hj ⟨g1, g2, g3⟩
      simp only at g1 g2 g3 ⊢
      refine Tot.bind _ (Tot.atN hj) fun g hg => ?_
      refine Tot.bind (fun v => v.length = p.Doors.length) ?_ fun v103 hv => ?_
      · refine Tot.ite (fun _ => ?_) fun _ => .pure g1
        refine Tot.bind _ (F66_law (p := p) (by exact f1) (by exact f2) (hp.g g (List.mem_of_getElem? hg)) _) fun _ _ => ?_
        exact Tot.bind _ (Tot.atN (by omega)) fun _ _ => .pure (by simpa using g1)
      refine Tot.bind _ (Tot.atN (by omega)) fun m hm => ?_
      refine Tot.ite (fun hmi => ?_) fun hmi => .pure ⟨hv, g2, fun d hd hh => ?_⟩
      · refine Tot.bind _ (Tot.atN (by omega)) fun _ _ => ?_
        refine Tot.bind _ (Tot.atN (by omega)) fun _ _ => .pure ⟨hv, by simpa using g2, fun d hd hh => ?_⟩
        have hne : d ≠ j := by
          rintro rfl
          rcases hh with h | h
          · omega
          · rw [hm] at h; cases h; simp at hmi
        have : ((j : Int)).toNat = j := by omega
        simp only [this]
        rw [List.getElem?_set_ne (Ne.symm hne)]
        exact g3 d hd (by rcases hh with h | h; · exact .inl (by omega)
                          · exact .inr h)
      · by_cases hd' : d = j
        · subst hd'
          exact g3 d hd (.inl (Nat.le_refl _))
        · exact g3 d hd (by rcases hh with h | h; · exact .inl (by omega)
                            · exact .inr h)
    rintro ⟨sa, he⟩ ⟨g1, g2, g3⟩
    simp only at g1 g2 g3 ⊢
    have ol : out.length = t := hB.1
    refine Tot.eq (push?_le (by simp; omega)) ?_
    refine .pure ⟨⟨by simp [ol], fun t' x hx => ?_⟩, e1, f1, f2⟩
    rcases Nat.lt_or_ge t' t with h | h
    · rw [List.getElem?_append_left (by omega)] at hx
      exact hB.2 t' x hx
    · rw [List.getElem?_append_right (by omega)] at hx
      have : t' = t := by
        rcases Nat.lt_or_ge (t' - out.length) 1 with h' | h'
        · omega
        · rw [List.getElem?_eq_none (by simpa using h')] at hx; cases hx
      subst this
      rw [ol, Nat.sub_self] at hx
      simp only [List.getElem?_cons_zero, Option.some.injEq] at hx
      subst hx
      refine ⟨⟨f1, f2, g2, g1, e3⟩, fun s hs hA hK => ?_⟩
      obtain ⟨q, hq, e⟩ := List.getElem_of_mem hs
      have hq' : l[q]? = some s := by rw [List.getElem?_eq_getElem hq, e]
      have G := (hS s hs).k3 hK
      exact g3 _ (by omega) (.inr (e5 q hq s hq' hA hK))
  · rintro ⟨out, rest⟩ ⟨hB, _⟩
    exact .pure fun _ => hB
end Go.Proofs.Ytfeomcdhhgeilaa.Pad
