/- The law of Shuts, Frees and Tolerates, over the pure functions. -/
import Derived.Test.YtfeomcdhhgeilaaLawPlays
set_option linter.unusedVariables false
set_option linter.unusedSimpArgs false
namespace Go.Proofs.Ytfeomcdhhgeilaa.Pad
open Go

/-- First tick, longest time and time until now. -/
def shutStep (t : Nat) (b : Bool) (s : Int × Int × Int) : Int × Int × Int :=
  if b then (if s.1 < 0 then ((t : Int), maxI s.2.1 (w64 (s.2.2 + 1)), w64 (s.2.2 + 1)) else (s.1, maxI s.2.1 (w64 (s.2.2 + 1)), w64 (s.2.2 + 1))) else (s.1, s.2.1, 0)
def shutAcc (f : Nat → Bool) : Nat → Int × Int × Int
  | 0 => (-1, 0, 0)
  | t + 1 => shutStep t (f t) (shutAcc f t)

/-- What Shuts answers. -/
def ShutsIs (p : Panel) (ticks : Int) (l : List Signal) (door : Int) (r : Int × Int × Int) : Prop :=
  (err p ticks l ≠ 0 ∧ r = (0, 0, err p ticks l)) ∨ (err p ticks l = 0 ∧ ¬(0 ≤ door ∧ door ≤ (p.Doors.length : Int) - 1) ∧ r = (0, 0, 1)) ∨
    (err p ticks l = 0 ∧ (0 ≤ door ∧ door ≤ (p.Doors.length : Int) - 1) ∧ r = ((shutAcc (fun t => shutAt p l t door.toNat) ticks.toNat).1, (shutAcc (fun t => shutAt p l t door.toNat) ticks.toNat).2.1, 0))
theorem ShutsIs.uniq {p : Panel} {ticks : Int} {l : List Signal} {door : Int} {r q : Int × Int × Int} (h : ShutsIs p ticks l door r) (k : ShutsIs p ticks l door q) : r = q := by
  rcases h with ⟨a, rfl⟩ | ⟨a, b, rfl⟩ | ⟨a, b, rfl⟩ <;> rcases k with ⟨a', rfl⟩ | ⟨a', b', rfl⟩ | ⟨a', b', rfl⟩ <;> first | rfl | exact absurd a' a | exact absurd a a' | exact absurd b' b | exact absurd b b'

theorem F36_law (p : Panel) (ticks : Int) (l : List Signal) (door : Int) : Tot (F36 p ticks l door) (ShutsIs p ticks l door) := by
  unfold F36
  refine Tot.bind _ (F45_err p ticks l) fun r hr => ?_
  by_cases h : err p ticks l = 0
  case neg =>
    rw [if_pos (by simp [hr.1, h])]
    exact .pure (.inl ⟨h, by rw [hr.1]⟩)
  obtain ⟨hp, ht, hL⟩ := err_zero h
  have c := hp.d
  have w3 : w64 ((p.Doors.length : Int) - 1) = (p.Doors.length : Int) - 1 := w64_eq (by omega) (by omega)
  rw [if_neg (by simp [hr.1, h]), F48_eq, w3]
  simp only [Option.bind_some]
  by_cases hd : 0 ≤ door ∧ door ≤ (p.Doors.length : Int) - 1
  case neg =>
    rw [if_pos (by rw [decide_eq_false hd]; rfl)]
    exact .pure (.inr (.inl ⟨h, hd, rfl⟩))
  rw [if_neg (by rw [decide_eq_true hd]; decide)]
  refine Tot.bind _ (F46_spec hp (by omega) (hr.2 h)) fun rows hR => ?_
  have hl := hR.1
  refine Tot.bind _ (Tot.forS (fun t s => s = shutAcc (fun t => shutAt p l t door.toNat) t) rfl ?_) ?_
  · rintro t s ht' rfl
    obtain ⟨row, hrow⟩ : ∃ row, rows[t]? = some row := ⟨_, List.getElem?_eq_getElem ht'⟩
    obtain ⟨n, rfl, n1, n2⟩ := hR.2 t row hrow
    rw [at?_nat, hrow]
    simp only [Option.bind_some]
    refine Tot.eq (nn?_le hd.1) ?_
    have ed : door = (door.toNat : Int) := by omega
    have ebit : ((andI (shrI (n : Int) door) 1) == 0) = !n.testBit door.toNat := by
      rw [ed, shrI_nat (by omega), show (1 : Int) = ((1 : Nat) : Int) by rfl, andI_nat (Nat.lt_of_le_of_lt (by rw [Nat.shiftRight_eq_div_pow]; exact Nat.div_le_self _ _) (show n < 2 ^ 62 by omega)) (by decide)]
      have e : n.testBit door.toNat = (n >>> door.toNat &&& 1 != 0) := by simp [Nat.testBit, Nat.and_comm]
      rw [Int.toNat_natCast, e]
      have : n >>> door.toNat &&& 1 = 0 ∨ n >>> door.toNat &&& 1 = 1 := by
        rw [Nat.and_one_is_mod]; omega
      rcases this with h | h <;> rw [h] <;> rfl
    rw [ebit, n2]
    have unf : shutAcc (fun t => shutAt p l t door.toNat) (t + 1) = shutStep t (shutAt p l t door.toNat) (shutAcc (fun t => shutAt p l t door.toNat) t) := rfl
    rw [unf]
    unfold shutStep
    cases shutAt p l t door.toNat with
    | false => exact .pure rfl
    | true =>
      simp only [Bool.not_true, Bool.false_eq_true, if_false, if_true]
      refine Tot.ite (fun h => .pure ?_) fun h => .pure ?_
      · rw [if_pos (by simpa using h)]
      · rw [if_neg (by simpa using h)]
  · rintro s rfl
    rw [hl]
    exact .pure (.inr (.inr ⟨h, hd, rfl⟩))
theorem F58_eq {p : Panel} {ticks : Int} {l : List Signal} (door : Int) : F58 p ticks l door = some (if err p ticks l = 0 then (if 0 ≤ door ∧ door ≤ (p.Doors.length : Int) - 1 then 0 else 1) else err p ticks l) := by
  unfold F58
  rw [F51_eq]
  simp only [Option.bind_some]
  by_cases h : err p ticks l = 0
  case neg => rw [if_pos (by simp [h]), if_neg h]
  obtain ⟨hp, ht, hL⟩ := err_zero h
  have c := hp.d
  have w3 : w64 ((p.Doors.length : Int) - 1) = (p.Doors.length : Int) - 1 := w64_eq (by omega) (by omega)
  rw [if_neg (by simp [h]), F43_eq, w3, if_pos h]
  simp only [Option.bind_some]
  by_cases hd : 0 ≤ door ∧ door ≤ (p.Doors.length : Int) - 1
  · rw [if_neg (by rw [decide_eq_true hd]; decide), if_pos hd]
  · rw [if_pos (by rw [decide_eq_false hd]; rfl), if_neg hd]
theorem F37_law (p : Panel) (ticks : Int) (l : List Signal) (door : Int) : Tot (F37 p ticks l door) (ShutsIs p ticks l door) := by
  unfold F37
  rw [F58_eq]
  simp only [Option.bind_some]
  by_cases h : err p ticks l = 0
  case neg =>
    rw [if_neg h, if_pos (by simp [h])]
    exact .pure (.inl ⟨h, rfl⟩)
  rw [if_pos h]
  obtain ⟨hp, ht, hL⟩ := err_zero h
  by_cases hd : 0 ≤ door ∧ door ≤ (p.Doors.length : Int) - 1
  case neg =>
    rw [if_neg hd, if_pos (by decide)]
    exact .pure (.inr (.inl ⟨h, hd, rfl⟩))
  rw [if_pos hd, if_neg (by decide)]
  refine Tot.bind _ (F52_spec hp ht.1 ht.2 (fun x hx => (hL.2 x hx).good.k1)) fun out ho => ?_
  have hl := ho.1
  refine Tot.eq (cnt?_le (by omega)) ?_
  refine Tot.bind _ (Tot.forS (fun t s => s = shutAcc (fun t => shutAt p l t door.toNat) t) rfl ?_) ?_
  · rintro t s ht' rfl
    obtain ⟨x, hx⟩ : ∃ x, out[t]? = some x := ⟨_, List.getElem?_eq_getElem (by omega)⟩
    have X := ho.2 t x hx
    obtain ⟨g, hg⟩ : ∃ g, p.Doors[door.toNat]? = some g := ⟨_, List.getElem?_eq_getElem (by omega)⟩
    have sa : shutAt p l t door.toNat = sh p l door.toNat g (t + 1) := by unfold shutAt; rw [hg]
    rw [at?_nat, hx]
    simp only [Option.bind_some]
    rw [at?_of hd.1 (X.shut _ g hg), ← sa]
    simp only [Option.bind_some]
    have unf : shutAcc (fun t => shutAt p l t door.toNat) (t + 1) = shutStep t (shutAt p l t door.toNat) (shutAcc (fun t => shutAt p l t door.toNat) t) := rfl
    rw [unf]
    unfold shutStep
    cases shutAt p l t door.toNat with
    | false => exact .pure rfl
    | true =>
      simp only [Bool.not_true, Bool.false_eq_true, if_false, if_true]
      refine Tot.ite (fun h => .pure ?_) fun h => .pure ?_
      · rw [if_pos (by simpa using h)]
      · rw [if_neg (by simpa using h)]
  · rintro s rfl
    exact .pure (.inr (.inr ⟨h, hd, rfl⟩))

theorem FreesIs.uniq {p : Panel} (hp : GoodPanel p) {m f m' f' : Int} (h : FreesIs p m f) (k : FreesIs p m' f') : f = f' := by
  have a := h.m0; have b := k.m0
  have e : m = m' := by
    have half : ∀ {m f m' f'}, FreesIs p m f → FreesIs p m' f' → m ≤ m' := by
      intro m f m' f' h k
      rcases h.some_ with h0 | ⟨g, h1, h2, h3⟩
      · have := k.m0; omega
      · have := k.all g h1 h2; omega
    have h1 := half h k
    have h2 := half k h
    omega
  rw [h.f, k.f, e]
/-- The reference's Frees. -/
theorem F38_law {p : Panel} (hp : GoodPanel p) : Tot (F38 p) (fun r => r.2 = 0 ∧ ∃ m, FreesIs p m r.1) := by
  have a := hp.l0; have b := hp.l1
  unfold F38
  rw [F15_good hp]
  simp only [Option.bind_some]
  rw [if_neg (by decide)]
  refine Tot.bind _ (Tot.forS (fun i f => ∃ m, 0 ≤ m ∧ m ≤ 50 ∧ (∀ (j : Nat) g, j < i → p.Doors[j]? = some g → g.When ≠ [] → g.Wait ≤ m) ∧ (m = 0 ∨ ∃ g ∈ p.Doors, g.When ≠ [] ∧ g.Wait = m) ∧ f = if m = 0 then 0 else p.Limit + m - 1) ⟨0, by decide, by decide, fun j g hj => by omega, .inl rfl, rfl⟩ ?_) ?_
  · rintro i f hi ⟨m, h0, h1, h2, h3, h4⟩
    obtain ⟨g, hg⟩ : ∃ g, p.Doors[i]? = some g := ⟨_, List.getElem?_eq_getElem hi⟩
    have G := hp.g g (List.mem_of_getElem? hg)
    have g0 := G.w0; have g1 := G.w1
    rw [at?_nat, hg]
    simp only [Option.bind_some]
    refine Tot.ite (fun h => .pure ?_) fun h => .pure ⟨m, h0, h1, fun j g' hj hg' hw => ?_, h3, h4⟩
    · rw [maxI_eq]
      have hne : g.When ≠ [] := by
        intro e; rw [e] at h; simp at h
      have e1 : w64 (p.Limit + g.Wait) = p.Limit + g.Wait := w64_eq (by omega) (by omega)
      rw [e1, w64_eq (n := p.Limit + g.Wait - 1) (by omega) (by omega)]
      refine ⟨max m g.Wait, by omega, by omega, fun j g' hj hg' hw => ?_, ?_, ?_⟩
      · rcases Nat.lt_succ_iff_lt_or_eq.1 hj with h' | rfl
        · have := h2 j g' h' hg' hw; omega
        · rw [hg] at hg'; cases hg'; omega
      · by_cases hc : m ≤ g.Wait
        · exact .inr ⟨g, List.mem_of_getElem? hg, hne, by omega⟩
        · rcases h3 with h3 | ⟨g', q1, q2, q3⟩
          · omega
          · exact .inr ⟨g', q1, q2, by omega⟩
      · rw [h4, if_neg (show max m g.Wait ≠ 0 by omega)]
        split <;> omega
    · rcases Nat.lt_succ_iff_lt_or_eq.1 hj with h' | rfl
      · exact h2 j g' h' hg' hw
      · rw [hg] at hg'; cases hg'
        exfalso; apply h
        have : 0 < g.When.length := List.length_pos_iff.2 hw
        simpa using this
  · rintro f ⟨m, h0, h1, h2, h3, h4⟩
    refine .pure ⟨rfl, m, h4, h0, h1, fun g hg hw => ?_, h3⟩
    obtain ⟨q, hq, e⟩ := List.getElem_of_mem hg
    exact h2 q g hq (by rw [List.getElem?_eq_getElem hq, e]) hw

/-- Frees, of the program and of the reference. -/
theorem frees_same (p : Panel) : ∃ r, F21 p = some r ∧ F38 p = some r := by
  rcases checks p with ⟨hp, h15, h27⟩ | ⟨hp, h15, h27⟩
  · obtain ⟨⟨f, e⟩, h1, h2, m, h3⟩ := F38_law hp
    simp only at h2 h3
    subst h2
    refine ⟨(f, 0), ?_, h1⟩
    unfold F21
    obtain ⟨f', h4, m', h5⟩ := F47_law hp
    rw [h27, h4]
    simp only [Option.bind_some]
    rw [if_neg (by decide), FreesIs.uniq hp h3 h5]
  · refine ⟨(0, 80), ?_, ?_⟩
    · unfold F21; rw [h27]; rfl
    · unfold F38; rw [h15]; rfl
theorem tolerates_same (p : Panel) (d : Int) : ∃ r, F39 p d = some r ∧ F40 p d = some r := by
  rcases checks p with ⟨hp, h15, h27⟩ | ⟨hp, h15, h27⟩
  · have c := hp.d
    have w3 : w64 ((p.Doors.length : Int) - 1) = (p.Doors.length : Int) - 1 := w64_eq (by omega) (by omega)
    unfold F39 F40
    rw [h27, h15, w3]
    simp only [F48_eq, F43_eq, Option.bind_some]
    rw [if_neg (by decide)]
    by_cases hd : 0 ≤ d ∧ d ≤ (p.Doors.length : Int) - 1
    · obtain ⟨g, hg⟩ : ∃ g, p.Doors[d.toNat]? = some g := ⟨_, List.getElem?_eq_getElem (by omega)⟩
      rw [if_neg (by rw [decide_eq_true hd]; decide), at?_of hd.1 hg]
      exact ⟨_, rfl, rfl⟩
    · rw [if_pos (by rw [decide_eq_false hd]; rfl)]
      exact ⟨_, rfl, rfl⟩
  · refine ⟨(0, 80), ?_, ?_⟩
    · unfold F39; rw [h27]; rfl
    · unfold F40; rw [h15]; rfl

theorem F12_law (p : Panel) (l : List Signal) (w : Law08_Where) : F12 p l w = some true := by
  unfold F12
  rw [F20_eq, F16_law]
  simp only [Option.bind_some]
  obtain ⟨r, e1, r1⟩ := F36_law p w.Ticks l w.Door
  obtain ⟨q, e2, q1⟩ := F37_law p w.Ticks l w.Door
  obtain ⟨u, e3, e4⟩ := frees_same p
  obtain ⟨v, e5, e6⟩ := tolerates_same p w.Door
  rw [e1, e2, e3, e4, e5, e6, ShutsIs.uniq r1 q1]
  simp [onL]
end Go.Proofs.Ytfeomcdhhgeilaa.Pad
