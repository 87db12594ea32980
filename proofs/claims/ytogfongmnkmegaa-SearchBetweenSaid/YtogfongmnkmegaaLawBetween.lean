/- SearchBetween. -/
import Derived.Test.YtogfongmnkmegaaLawReaches
set_option linter.unusedVariables false
namespace Go.Proofs.Ytogfongmnkmegaa.Pad
open Go Go.Proofs

theorem sum_le_of (l : List Int) (v : Int) (h : ∀ x ∈ l, x ≤ v) : l.sum ≤ l.length * v := by
  induction l with
  | nil => simp
  | cons x l ih =>
    have a := ih (fun y hy => h y (by simp [hy]))
    have b := h x (by simp)
    have : ((x :: l).length : Int) * v = l.length * v + v := by rw [List.length_cons, Int.natCast_add, Int.add_mul]; simp
    rw [List.sum_cons, this]; omega
theorem sum_ge_of (l : List Int) (v : Int) (h : ∀ x ∈ l, v ≤ x) : l.length * v ≤ l.sum := by
  induction l with
  | nil => simp
  | cons x l ih =>
    have a := ih (fun y hy => h y (by simp [hy]))
    have b := h x (by simp)
    have : ((x :: l).length : Int) * v = l.length * v + v := by rw [List.length_cons, Int.natCast_add, Int.add_mul]; simp
    rw [List.sum_cons, this]; omega

theorem F8_law (g : Graph) (d : List Int) (r : Law06_Run) : F8 g d r = some true := by
  unfold F8
  obtain ⟨b, hb, _⟩ := F15_spec g
  obtain ⟨e, he, _⟩ := F21_spec g d
  rw [hb, Option.bind_some, F17_eq]
  cases b with
  | true => rfl
  | false =>
    simp only [Bool.false_eq_true, if_false, he, Option.bind_some]
    by_cases h0 : e = 0
    rotate_left
    · rw [if_pos (by simpa using h0)]; rfl
    rw [if_neg (by simpa using h0), F16_eq, Option.bind_some]
    by_cases h : 120 < r.Most ∧ r.Most ≤ 2000
    · rw [if_pos (by simpa using h)]; rfl
    rw [if_neg (by simpa using h)]
    simp only [Option.bind_some, onL]
    obtain ⟨x, h1, _, e1, h2, h3⟩ := F29_F30 g d r.Mind.Memory r.Most
    obtain ⟨y, h4, _, e2, h5, h6⟩ := F27_F28 g d r.Mind.Memory r.Most
    have := h2.uniq h5
    subst this
    rw [h1, h4, Option.bind_some, Option.bind_some]
    have herr : (x.2.2 ≠ 0 ∧ y.2.2 = x.2.2) ∨ (e1 = 0 ∧ ∃ (n : Nat) (l : List Int), 1 ≤ n ∧ n ≤ 100 ∧ StepsIs g d r.Mind.Memory r.Most n (l, true) ∧ x.2.2 = 0 ∧ y.2.2 = 0 ∧ MaxIs l y.1 y.2.1 ∧
        ∃ s : Nat, (s : Int) = l.sum ∧ x.1 = ((s / Nat.gcd s n : Nat) : Int) ∧ x.2.1 = ((n / Nat.gcd s n : Nat) : Int)) := by
      rcases h3 with ⟨a, rfl⟩ | ⟨a, n, l, b, n1, n2, n3, n4, n5, h3⟩
      · rcases h6 with ⟨_, rfl⟩ | ⟨a', _⟩
        · exact .inl ⟨a, rfl⟩
        · exact (a a').elim
      · rcases h6 with ⟨a', _⟩ | ⟨_, n', l', b', n1', n2', n3', n4', n5', h6⟩
        · exact (a' a).elim
        · rw [n4] at n4'; cases n4'
          rw [n3] at n3'
          have hnn : n = n' := by have := Option.some.inj n3'; omega
          subst hnn
          rcases h3 with ⟨rfl, rfl⟩ | ⟨rfl, c1, c2⟩
          · rcases h6 with ⟨_, rfl⟩ | ⟨c, _⟩
            · exact .inl ⟨by simp, rfl⟩
            · cases c
          · rcases h6 with ⟨c, _⟩ | ⟨_, c3, c4⟩
            · cases c
            · exact .inr ⟨a, n, l, n1, n2, n5, c1, c3, c4, c2⟩
    rcases herr with ⟨a1, a2⟩ | ⟨rfl, n, l, n1, n2, hst, x0, y0, hmax, s, hs, hx1, hx2⟩
    · rw [if_pos (by simpa using a1), Option.bind_some, if_pos rfl, if_pos (by simp [a2])]; rfl
    obtain ⟨hg, hm, c, c'⟩ := h2.ok
    have hel := hg.el; have hdl := hg.dl; have hn1 := hg.n1
    rw [if_neg (by simpa using x0), Option.bind_some]
    have hy0 : (y.2.2 != 0) = false := by simpa using y0
    simp only [hy0, Bool.false_eq_true, if_false, Option.bind_some]
    obtain ⟨k, hk, hy2, hy1, hmx, hlt⟩ := hmax
    obtain ⟨hl, hel2⟩ : l.length = n ∧ ∀ i (h : i < l.length), ∃ tr : List Int, F46 ⟨g.Edges, d⟩ ⟨r.Mind.Memory, (i : Int)⟩ r.Most = some (tr, true) ∧ l[i] = tr.length ∧ (tr.length : Int) ≤ r.Most := by
      rcases hst with ⟨_, a, b⟩ | ⟨a, _⟩
      · exact ⟨a, b⟩
      · cases a
    have hrun : ∀ i (h : i < l.length), ∃ tr : List Int, F18 g d ⟨r.Mind.Memory, (i : Int)⟩ r.Most = some (tr, true, 0) ∧ l[i] = tr.length ∧ 0 ≤ dA d 0 ∧ dA d 0 ≤ l[i] := by
      intro i hi
      obtain ⟨tr, f1, f2, f3⟩ := hel2 i hi
      have hm' : MindOk ⟨r.Mind.Memory, (i : Int)⟩ := ⟨hm.m0, hm.m1, by simp, by simp only; omega⟩
      obtain ⟨tr', p, M, g1, g2, g3, _, _⟩ := F18_run (.inl ⟨rfl, hg, hm', c, c'⟩)
      rw [f1] at g2
      have hg2 := Option.some.inj g2
      have e1 := congrArg Prod.fst hg2
      have e2 := congrArg Prod.snd hg2
      simp only at e1 e2
      subst e1
      refine ⟨tr, by rw [g3, ← e2], f2, ?_⟩
      have hdp : dA d p = 0 := by simpa using e2.symm
      have := g1.dist hg hm'.m0 (by omega)
      omega
    have hd0 : 0 ≤ dA d 0 := by obtain ⟨_, _, _, a, _⟩ := hrun k hk; exact a
    have hd1 : dA d 0 < 300 := by
      have := hg.bnd (dA d 0) (ix_mem 0 (by omega) (by omega))
      have := hg.n2; omega
    have hyb : 0 ≤ y.1 ∧ y.1 ≤ 2000 := by
      obtain ⟨tr, _, f2, f3⟩ := hel2 k hk
      rw [hy1, f2]; omega
    have hgp : 0 < Nat.gcd s n := Nat.gcd_pos_of_pos_right _ (by omega)
    have hsn : s = (s / Nat.gcd s n) * Nat.gcd s n := (Nat.div_mul_cancel (Nat.gcd_dvd_left s n)).symm
    have hnn : n = (n / Nat.gcd s n) * Nat.gcd s n := (Nat.div_mul_cancel (Nat.gcd_dvd_right s n)).symm
    have hden : 0 < n / Nat.gcd s n := Nat.div_pos (Nat.gcd_le_right _ (by omega)) hgp
    have hden' : n / Nat.gcd s n ≤ n := Nat.div_le_self _ _
    generalize hA : s / Nat.gcd s n = A at hsn hx1
    generalize hB : n / Nat.gcd s n = B at hnn hx2 hden hden'
    generalize hG : Nat.gcd s n = G at hsn hnn hgp
    have hup : (A : Int) ≤ y.1 * B := by
      have h7 := sum_le_of l y.1 (fun x hx => by
        obtain ⟨i, hi, rfl⟩ := List.mem_iff_getElem.1 hx
        exact hmx i hi)
      rw [← hs, hl] at h7
      obtain ⟨v, hv⟩ : ∃ v : Nat, y.1 = v := ⟨y.1.toNat, by omega⟩
      rw [hv] at h7 ⊢
      have h8 : s ≤ n * v := by exact_mod_cast h7
      rw [hsn, hnn] at h8
      have h9 : A * G ≤ (v * B) * G := by
        calc A * G ≤ B * G * v := h8
          _ = (v * B) * G := by rw [Nat.mul_comm (B * G) v, Nat.mul_assoc]
      have := Nat.le_of_mul_le_mul_right h9 hgp
      exact_mod_cast this
    have hlo : dA d 0 * B ≤ (A : Int) := by
      have h7 := sum_ge_of l (dA d 0) (fun x hx => by
        obtain ⟨i, hi, rfl⟩ := List.mem_iff_getElem.1 hx
        obtain ⟨_, _, _, _, a⟩ := hrun i hi; exact a)
      rw [← hs, hl] at h7
      obtain ⟨v, hv⟩ : ∃ v : Nat, dA d 0 = v := ⟨(dA d 0).toNat, by omega⟩
      rw [hv] at h7 ⊢
      have h8 : n * v ≤ s := by exact_mod_cast h7
      rw [hsn, hnn] at h8
      have h9 : (v * B) * G ≤ A * G := by
        calc (v * B) * G = B * G * v := by rw [Nat.mul_comm (B * G) v, Nat.mul_assoc]
          _ ≤ A * G := h8
      have := Nat.le_of_mul_le_mul_right h9 hgp
      exact_mod_cast this
    have hat0 : at? d 0 = some (dA d 0) := at?_ix 0 (by omega) (by omega)
    have hvB : y.1 * (B : Int) ≤ 2000 * 100 := Int.mul_le_mul hyb.2 (by omega) (by omega) (by omega)
    have hvB0 : 0 ≤ y.1 * (B : Int) := Int.mul_nonneg hyb.1 (by omega)
    have hdB : dA d 0 * (B : Int) ≤ 300 * 100 := Int.mul_le_mul (by omega) (by omega) (by omega) (by omega)
    have hdB0 : 0 ≤ dA d 0 * (B : Int) := Int.mul_nonneg hd0 (by omega)
    rw [hx1, hx2, hat0, if_neg (by simp; omega), w64_eq (by omega) (by omega), if_neg (by simpa using hup), Option.bind_some, w64_eq (by omega) (by omega), if_neg (by simpa using hlo), hy2, if_neg (by simp), if_neg (by simp; omega)]
    simp only [Option.bind_some]
    obtain ⟨o, ho, hE⟩ := whileO_inv (σ := Int) (ρ := Int ⊕ Bool) (body := fun s1 =>
       if decide (s1 ≤ (k : Int)) then
       ((F18 g d (⟨r.Mind.Memory, s1⟩ : Mind) r.Most).bind fun x25 =>
       if x25.2.2 != 0 then
       (some (Sum.inr (Sum.inr false)))
       else
       (if !x25.2.1 then
       (some (Sum.inr (Sum.inr false)))
       else
       (if ((x25.1.length : Int) == y.1) != (s1 == (k : Int)) then
       (some (Sum.inr (Sum.inr false)))
       else
       (if decide (y.1 < (x25.1.length : Int)) then
       (some (Sum.inr (Sum.inr false)))
       else
       (some (Sum.inl (w64 (s1 + 1))))))))
       else
       (some (Sum.inr (Sum.inl s1)))) (fun j s => s = j ∧ j ≤ k + 1) (Sum.elim (fun _ => True) (fun _ => False)) (k + 1) 0 0 ⟨rfl, by omega⟩ (by
        rintro j _ _ hj ⟨rfl, _⟩
        left
        obtain ⟨tr, f1, f2, _, _⟩ := hrun j (by omega)
        have hle := hmx j (by omega)
        rw [f2] at hle
        rw [if_pos (by simp; omega), f1, Option.bind_some, if_neg (by simp), if_neg (by simp)]
        have heq : (((tr.length : Int) == y.1) != ((j : Int) == (k : Int))) = false := by
          by_cases hjk : j = k
          · subst hjk
            rw [hy1, ← f2]; simp
          · have := hlt j (by omega)
            rw [f2] at this
            have a1 : ((tr.length : Int) == y.1) = false := by simp; omega
            have a2 : ((j : Int) == (k : Int)) = false := by simp; omega
            rw [a1, a2]; rfl
        rw [heq, if_neg (by simp), if_neg (by simp; omega)]
        exact ⟨_, rfl, by rw [w64_eq (by omega) (by omega)]; omega, by omega⟩) (by
        rintro _ ⟨rfl, _⟩
        exact ⟨_, if_neg (by simp; omega), trivial⟩)
    refine Eq.trans (congrArg (fun o => Option.bind o _) ho) ?_
    cases o with
    | inl s => rfl
    | inr b => exact hE.elim
end Go.Proofs.Ytogfongmnkmegaa.Pad
