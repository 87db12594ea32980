/- The law of silence over the pure functions. -/
import Derived.Test.YtfeomcdhhgeilaaLawRows
set_option linter.unusedVariables false
set_option linter.unusedSimpArgs false
namespace Go.Proofs.Ytfeomcdhhgeilaa.Pad
open Go

set_option maxRecDepth 100000 in
theorem F16_law : F16 = some true := by
  kernel_rfl
theorem F18_law {l : List Signal} {d : Int} {q : List Int} (h : l.length + q.length ≤ 1000) : Tot (F18 l d q) (fun r => ∀ x ∈ q, (⟨x, 3, d, 0⟩ : Signal) ∈ r) := by
  unfold F18
  refine Tot.eq (push?_le (by simp; omega)) ?_
  refine Tot.bind _ (Tot.forS (fun i s => s.length = l.length + i ∧ ∀ j, j < i → ∀ x, q[j]? = some x → (⟨x, 3, d, 0⟩ : Signal) ∈ s) ⟨by simp, fun j hj => by omega⟩ ?_) ?_
  · rintro j s hj ⟨h1, h2⟩
    refine Tot.bind _ (Tot.atN hj) fun x hx => ?_
    refine Tot.eq (push?_le (by simp; omega)) ?_
    refine .pure ⟨by simp; omega, fun j' hj' y hy => ?_⟩
    rcases Nat.lt_succ_iff_lt_or_eq.1 hj' with h | rfl
    · exact List.mem_append_left _ (h2 j' h y hy)
    · rw [hx] at hy; cases hy
      exact List.mem_append_right _ (by simp)
  · rintro s ⟨_, h2⟩
    refine .pure fun x hx => ?_
    obtain ⟨j, hj, e⟩ := List.getElem_of_mem hx
    exact h2 j hj x (by rw [List.getElem?_eq_getElem hj, e])

theorem tmod_add {a n : Int} (h : 0 < n) (h' : n ≤ 1000) : 0 ≤ (a.tmod n + n).tmod n ∧ (a.tmod n + n).tmod n < n ∧ w64 (a.tmod n + n) = a.tmod n + n := by
  have h1 : -n < a.tmod n := by
    have := Int.lt_tmod_of_pos a h
    omega
  have h2 : a.tmod n < n := Int.tmod_lt_of_pos a h
  refine ⟨Int.tmod_nonneg _ (by omega), Int.tmod_lt_of_pos _ h, w64_eq (by omega) (by omega)⟩

theorem F3_law (p : Panel) (l : List Signal) (w : Law08_Where) : F3 p l w = some true := by
  suffices h : Tot (F3 p l w) (fun r => r = true) by
    obtain ⟨r, h, rfl⟩ := h; exact h
  unfold F3
  simp only [F16_law, Option.bind_some]
  refine Tot.bind (Sum.elim (fun _ => GoodPanel p ∧ p.Doors.length ≠ 0 ∧ l.length ≤ 150) (fun r => r = true)) ?_ ?_
  · refine Tot.bind _ (F15_law p) fun e he => ?_
    refine Tot.ite (fun _ => .pure rfl) fun h1 => Tot.ite (fun _ => .pure rfl) fun h2 => Tot.ite (fun _ => .pure rfl) fun h3 => .pure ⟨he (by simpa using h1), by simpa using h2, by simp at h3; omega⟩
  intro o ho
  refine Tot.onL ho ?_ (by rintro r rfl; rfl)
  rintro _ ⟨hp, hd, hl⟩
  have c := hp.d
  obtain ⟨m0, m1, m2⟩ := tmod_add (a := w.Door) (n := (p.Doors.length : Int)) (by omega) (by omega)
  obtain ⟨n0, n1, n2⟩ := tmod_add (a := w.Ticks) (n := 10) (by omega) (by omega)
  refine Tot.eq (md_pos (by omega)) ?_
  rw [m2]
  refine Tot.eq (md_pos (by omega)) ?_
  refine Tot.eq (md_pos (by omega)) ?_
  rw [n2]
  refine Tot.eq (md_pos (by omega)) ?_
  generalize (w.Door.tmod (p.Doors.length : Int) + (p.Doors.length : Int)).tmod (p.Doors.length : Int) = door at m0 m1
  generalize (w.Ticks.tmod 10 + 10).tmod 10 = frm at n0 n1
  refine Tot.bind _ (Tot.at_ m0 m1) fun g hg => ?_
  have G := hp.g g (List.mem_of_getElem? hg)
  have g0 := G.w0; have g1 := G.w1
  have hw : w64 (frm + g.Wait) = frm + g.Wait := w64_eq (by omega) (by omega)
  have hw1 : w64 (frm + g.Wait - 1) = frm + g.Wait - 1 := w64_eq (by omega) (by omega)
  rw [hw, hw1]
  refine Tot.bind (fun (s : List Int × Int) => s.1.length ≤ 50 ∧ ∀ t, frm ≤ t → t < frm + g.Wait → t ∈ s.1) ?_ ?_
  · refine whileO_inv (fun i (s : List Int × Int) => s.2 = frm + i ∧ s.1.length = i ∧ ∀ t, frm ≤ t → t < frm + i → t ∈ s.1) _ g.Wait.toNat 0 _ ⟨by simp, rfl, fun t h h' => by omega⟩ ?_ ?_
    · rintro j ⟨s1, s2⟩ _ hj ⟨h1, h2, h3⟩
      simp only at h1 h2 h3 ⊢
      refine .inl ⟨(s1 ++ [s2], w64 (s2 + 1)), ?_, ?_, by simp [h2], ?_⟩
      · rw [if_pos (by simp; omega), push?_le (by simp; omega)]; rfl
      · show w64 (s2 + 1) = _
        rw [w64_eq (by omega) (by omega)]; omega
      · intro t a b
        by_cases h : t = s2
        · subst h; simp
        · exact List.mem_append_left _ (h3 t a (by omega))
    · rintro ⟨s1, s2⟩ ⟨h1, h2, h3⟩
      simp only at h1 h2 h3 ⊢
      refine ⟨(s1, s2), ?_, by simp; omega, fun t a b => h3 t a (by omega)⟩
      rw [if_neg (by simp; omega)]
  rintro ⟨q, tt⟩ ⟨q1, q2⟩
  simp only at q1 q2 ⊢
  refine Tot.bind _ (F18_law (by omega)) fun l2 hl2 => ?_
  have t0 : 0 ≤ frm + g.Wait := by omega
  have t1 : frm + g.Wait ≤ 1000 := by omega
  refine Tot.bind (fun r => r.2 = 0 → r.1.length = (frm + g.Wait).toNat ∧ ∀ row, r.1[(frm + g.Wait - 1).toNat]? = some row → F19 row door = some false) ?_ ?_
  · unfold F17
    refine Tot.bind _ (F45_law hp t0 t1 l2) fun r hr => ?_
    refine Tot.ite (fun h => .pure fun h' => ?_) fun h => ?_
    · simp at h; exact absurd h' h
    · have hB := hr (by simpa using h)
      refine Tot.bind _ (F46_law hp (by omega) hB) fun rows hrows => .pure fun _ => ⟨hrows.1, fun row hrow => ?_⟩
      obtain ⟨f, ⟨n, rfl, n1', n2'⟩, hf⟩ := hrows.2 _ row hrow
      have hdoor : door = ((door.toNat : Nat) : Int) := by omega
      rw [hdoor, F19_law (by omega) (by omega), n2']
      rw [hf door.toNat g hg frm.toNat (by omega) (fun t x ha hb hx => ?_) (by omega)]
      have := (hB.2 t x hx).2 _ (hl2 (t : Int) (q2 _ (by omega) (by omega))) rfl rfl
      exact this
  rintro ⟨rows, e⟩ hr
  refine Tot.ite (fun _ => .pure rfl) fun h => ?_
  obtain ⟨h1, h2⟩ := hr (by simpa using h)
  simp only at h1 h2 ⊢
  rw [if_pos (by simp; omega)]
  refine Tot.bind _ (Tot.at_ (by omega) (by omega)) fun row hrow => ?_
  refine Tot.eq (h2 row hrow) ?_
  exact .pure rfl
end Go.Proofs.Ytfeomcdhhgeilaa.Pad
