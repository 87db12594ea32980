/- SearchGrows: the law. -/
import Derived.Test.YtogfongmnkmegaaLawGrows
set_option linter.unusedVariables false
namespace Go.Proofs.Ytogfongmnkmegaa.Pad
open Go Go.Proofs

theorem coprime_div {a b : Nat} (h : 0 < Nat.gcd a b) : Nat.gcd (a / Nat.gcd a b) (b / Nat.gcd a b) = 1 := by
  have h1 : Nat.gcd a b * (a / Nat.gcd a b) = a := Nat.mul_div_cancel' (Nat.gcd_dvd_left a b)
  have h2 : Nat.gcd a b * (b / Nat.gcd a b) = b := Nat.mul_div_cancel' (Nat.gcd_dvd_right a b)
  have h3 : Nat.gcd a b * Nat.gcd (a / Nat.gcd a b) (b / Nat.gcd a b) = Nat.gcd a b := by
    rw [← Nat.gcd_mul_left, h1, h2]
  have h4 : Nat.gcd a b * Nat.gcd (a / Nat.gcd a b) (b / Nat.gcd a b) = Nat.gcd a b * 1 := by rw [h3, Nat.mul_one]
  exact Nat.eq_of_mul_eq_mul_left h h4
theorem no_common {a b : Nat} (h : Nat.gcd a b = 1) {k : Nat} (hk : 2 ≤ k) : ¬ (a % k = 0 ∧ b % k = 0) := by
  rintro ⟨h1, h2⟩
  have := Nat.dvd_gcd (Nat.dvd_of_mod_eq_zero h1) (Nat.dvd_of_mod_eq_zero h2)
  rw [h] at this
  have := Nat.le_of_dvd (by omega) this
  omega
theorem md_nat {a : Nat} {k : Nat} (hk : 0 < k) : md (a : Int) (k : Int) = some ((a % k : Nat) : Int) := by
  rw [md_pos (by omega), Int.tmod_eq_emod_of_nonneg (by omega)]; rfl
theorem F13_law (g : Graph) (d : List Int) (a2 : Int) : F13 g d a2 = some true := by
  unfold F13
  obtain ⟨b, hb, _⟩ := F15_spec g
  obtain ⟨e, he, he'⟩ := F21_spec g d
  rw [hb, Option.bind_some, F17_eq]
  cases b with
  | true => rfl
  | false =>
    simp only [Bool.false_eq_true, if_false, he, Option.bind_some]
    rcases he' with ⟨rfl, hg⟩ | ⟨rfl, hg⟩
    rotate_left
    · rw [if_pos (by simp)]; rfl
    have hel := hg.el; have hdl := hg.dl; have hn2 := hg.n2; have hn1 := hg.n1
    rw [if_neg (by simp)]
    simp only [Option.bind_some, onL]
    obtain ⟨r, r1, _, r2⟩ := F36_F37 g d a2
    rw [r1, Option.bind_some]
    rcases r2 with ⟨_, h⟩ | ⟨_, ⟨rfl, _⟩ | ⟨k, rfl, hk, ⟨rfl, _⟩ | ⟨hfit, h0, num, hnum, ha, hbb⟩⟩⟩
    · exact (h hg).elim
    · rw [if_pos (by simp)]
    · rw [if_pos (by simp)]
    obtain ⟨c1, c2, _⟩ := comm_ok hg g.Edges.length (Nat.le_refl _)
    have hdiv := fun hk => divAll_comm hg (k := k) hfit hk
    obtain ⟨r', r1', _, r2'⟩ := F36_F37 g d ((k : Int) + 1)
    have hdiv' := fun k h hk => divAll_comm hg (k := k) h hk
    generalize hCC : comm g.Edges d g.Edges.length = C at *
    have hCk : 0 < C ^ k := Nat.pow_pos (by omega)
    have hgp : 0 < Nat.gcd num (C ^ k) := Nat.gcd_pos_of_pos_right _ hCk
    have hR := rounds_ok (C := C) (k := k) hg hdiv
    have hRk := hR k (Nat.le_refl _)
    have hfin := finOf_ok (d := d) hRk.1 g.Edges.length (Nat.le_refl _)
    have hfl : (roundsM g.Edges d (start g.Edges.length ((C ^ k : Nat) : Int)) k).take g.Edges.length = roundsM g.Edges d (start g.Edges.length ((C ^ k : Nat) : Int)) k := List.take_of_length_le (by have := hRk.1.len; omega)
    rw [hfl, hRk.2, ← hnum] at hfin
    have hle : num ≤ C ^ k := by omega
    have hposn := finOf_pos (d := d) hRk.1 g.Edges.length (Nat.le_refl _)
    rw [← hnum] at hposn
    have hrp := rounds_pos hg c1 hdiv k (Nat.le_refl _)
    have hnpos : 0 < num ↔ (0 ≤ dA d 0 ∧ dA d 0 ≤ k) := by
      constructor
      · intro h
        obtain ⟨p, p1, p2, p3⟩ := hposn.1 (by omega)
        have := hrp.1 p (by omega) (by omega) p3 (by omega)
        omega
      · intro h
        obtain ⟨q, q0, q1, q2, q3, q4⟩ := hrp.2 h.1
        have := hposn.2 ⟨q.toNat, by omega, by rw [show ((q.toNat : Nat) : Int) = q by omega]; omega, by rw [show ((q.toNat : Nat) : Int) = q by omega]; exact q2⟩
        omega
    have hn' : Nat.gcd num (C ^ k) * (num / Nat.gcd num (C ^ k)) = num := Nat.mul_div_cancel' (Nat.gcd_dvd_left _ _)
    have hc' : Nat.gcd num (C ^ k) * (C ^ k / Nat.gcd num (C ^ k)) = C ^ k := Nat.mul_div_cancel' (Nat.gcd_dvd_right _ _)
    have hcop := coprime_div hgp
    have hAB : num / Nat.gcd num (C ^ k) ≤ C ^ k / Nat.gcd num (C ^ k) := Nat.div_le_div_right hle
    have hB1 : 0 < C ^ k / Nat.gcd num (C ^ k) := Nat.div_pos (Nat.gcd_le_right _ hCk) hgp
    have hApos : 0 < num / Nat.gcd num (C ^ k) ↔ 0 < num := by
      constructor
      · intro h; exact Nat.lt_of_lt_of_le h (Nat.div_le_self _ _)
      · intro h
        apply Classical.byContradiction
        intro hz
        have : num / Nat.gcd num (C ^ k) = 0 := Nat.eq_zero_of_not_pos hz
        rw [this, Nat.mul_zero] at hn'; omega
    generalize num / Nat.gcd num (C ^ k) = A at *
    generalize C ^ k / Nat.gcd num (C ^ k) = B at *
    generalize Nat.gcd num (C ^ k) = G at *
    have hat0 : at? d 0 = some (dA d 0) := at?_ix 0 (by omega) (by omega)
    rw [if_neg (by simpa using h0), ha, hbb, if_neg (by simp only [decide_eq_true_eq]; omega), if_neg (by simp only [decide_eq_true_eq]; omega), if_neg (by simp only [decide_eq_true_eq]; omega), hat0]
    simp only [Option.bind_some]
    have hcheck : (if decide (0 ≤ dA d 0) = true then
        (if (decide (0 < (A : Int)) != decide (dA d 0 ≤ (k : Int))) = true then (some (Sum.inr false) : Option (Unit ⊕ Bool)) else some (Sum.inl ()))
        else if (decide (0 < (A : Int)) != false) = true then some (Sum.inr false) else some (Sum.inl ())) = some (Sum.inl ()) := by
      by_cases hd : 0 ≤ dA d 0
      · rw [if_pos (by simpa using hd)]
        by_cases hdk : dA d 0 ≤ k
        · have : (0 : Int) < A := by have := hApos.2 (hnpos.2 ⟨hd, hdk⟩); omega
          rw [decide_eq_true this, decide_eq_true hdk]; rfl
        · have : ¬ (0 : Int) < A := fun h => hdk (hnpos.1 (hApos.1 (by omega))).2
          rw [decide_eq_false this, decide_eq_false hdk]; rfl
      · rw [if_neg (by simpa using hd)]
        have : ¬ (0 : Int) < A := fun h => hd (hnpos.1 (hApos.1 (by omega))).1
        rw [decide_eq_false this]; rfl
    rw [hcheck]
    simp only [Option.bind_some]
    obtain ⟨o, o1, o2⟩ := whileO_inv (σ := Int) (ρ := Int ⊕ Bool) (body := fun s1 =>
       if decide (s1 ≤ 40) then
       ((md (A : Int) s1).bind fun x27 =>
       if x27 == 0 then
       ((md (B : Int) s1).bind fun x28 =>
       if x28 == 0 then
       (some (Sum.inr (Sum.inr false)))
       else
       (some (Sum.inl (w64 (s1 + 1)))))
       else
       (some (Sum.inl (w64 (s1 + 1)))))
       else
       (some (Sum.inr (Sum.inl s1)))) (fun j s => s = (j : Int) ∧ j ≤ 41) (Sum.elim (fun _ => True) (fun _ => False)) 39 2 2 ⟨rfl, by omega⟩ (by
        rintro j _ hj hj' ⟨rfl, _⟩
        left
        have hno := no_common hcop hj
        rw [if_pos (by simp; omega), md_nat (by omega), Option.bind_some, md_nat (by omega)]
        simp only [Option.bind_some]
        by_cases h1 : A % j = 0
        · have h2 : B % j ≠ 0 := fun h2 => hno ⟨h1, h2⟩
          rw [if_pos (by simp only [beq_iff_eq]; omega), if_neg (by simp only [beq_iff_eq]; omega)]
          exact ⟨_, rfl, by rw [w64_eq (by omega) (by omega)]; omega, by omega⟩
        · rw [if_neg (by simp only [beq_iff_eq]; omega)]
          exact ⟨_, rfl, by rw [w64_eq (by omega) (by omega)]; omega, by omega⟩) (by
        rintro _ ⟨rfl, _⟩
        exact ⟨_, if_neg (by simp), trivial⟩)
    refine Eq.trans (congrArg (fun o => Option.bind o _) o1) ?_
    cases o with
    | inr _ => exact o2.elim
    | inl s =>
      simp only [Option.bind_some]
      rw [w64_eq (by omega) (by omega), r1', Option.bind_some]
      rcases r2' with ⟨_, h⟩ | ⟨_, ⟨rfl, _⟩ | ⟨k', hk', _, ⟨rfl, _⟩ | ⟨hfit', h0', num', hnum', ha', hb'⟩⟩⟩
      · exact (h hg).elim
      · rfl
      · rfl
      have : k' = k + 1 := by omega
      subst this
      rw [hCC] at hfit' hnum' ha' hb'
      have hdv := hdiv' (k + 1) hfit' (by omega)
      have hC1 := hdv
      have hR' := rounds_ok (C := C) (k := k + 1) hg (fun _ => hdv) k (by omega)
      rw [show k + 1 - k = 0 + 1 by omega, Nat.pow_succ, Nat.mul_comm] at hR'
      have hmono := finOf_round (d := d) hg hdv hR'.1
      rw [Nat.mul_comm C (C ^ 0), ← Nat.pow_succ] at hR'
      rw [← roundsM_succ, ← hnum', scale_rounds hg hdv k (Nat.le_refl _), finOf_scale, ← hnum] at hmono
      have hm : C * num ≤ num' := by exact_mod_cast hmono
      have hCk' : 0 < C ^ (k + 1) := Nat.pow_pos (by omega)
      have hgp' : 0 < Nat.gcd num' (C ^ (k + 1)) := Nat.gcd_pos_of_pos_right _ hCk'
      have hn2' : Nat.gcd num' (C ^ (k + 1)) * (num' / Nat.gcd num' (C ^ (k + 1))) = num' := Nat.mul_div_cancel' (Nat.gcd_dvd_left _ _)
      have hc2' : Nat.gcd num' (C ^ (k + 1)) * (C ^ (k + 1) / Nat.gcd num' (C ^ (k + 1))) = C ^ (k + 1) := Nat.mul_div_cancel' (Nat.gcd_dvd_right _ _)
      have hle' : num' ≤ C ^ (k + 1) := by
        have hRk' := rounds_ok (C := C) (k := k + 1) hg (fun _ => hdv) (k + 1) (Nat.le_refl _)
        have hfin' := finOf_ok (d := d) hRk'.1 g.Edges.length (Nat.le_refl _)
        have := take_sum_le hRk'.1.nn g.Edges.length
        rw [hRk'.2] at this
        rw [← hnum'] at hfin'
        omega
      have hAB' : num' / Nat.gcd num' (C ^ (k + 1)) ≤ C ^ (k + 1) / Nat.gcd num' (C ^ (k + 1)) := Nat.div_le_div_right hle'
      generalize num' / Nat.gcd num' (C ^ (k + 1)) = A' at *
      generalize C ^ (k + 1) / Nat.gcd num' (C ^ (k + 1)) = B' at *
      generalize Nat.gcd num' (C ^ (k + 1)) = G' at *
      have hcross : A * B' ≤ A' * B := by
        have h1 : num * C ^ (k + 1) ≤ num' * C ^ k := by
          calc num * C ^ (k + 1) = C * num * C ^ k := by rw [Nat.pow_succ, Nat.mul_comm (C ^ k) C, ← Nat.mul_assoc, Nat.mul_comm num C]
            _ ≤ num' * C ^ k := Nat.mul_le_mul_right _ hm
        rw [← hn', ← hc2', ← hn2', ← hc'] at h1
        have h2 : (A * B') * (G * G') ≤ (A' * B) * (G * G') := by
          calc (A * B') * (G * G') = (G * A) * (G' * B') := by ac_rfl
            _ ≤ (G' * A') * (G * B) := h1
            _ = (A' * B) * (G * G') := by ac_rfl
        exact Nat.le_of_mul_le_mul_right h2 (Nat.mul_pos hgp hgp')
      rw [if_neg (by simpa using h0'), ha', hb']
      by_cases hbig : 1000000000 < B
      · rw [if_pos (by simp only [decide_eq_true_eq]; omega)]; rfl
      rw [if_neg (by simp only [decide_eq_true_eq]; omega)]
      by_cases hbig' : 1000000000 < B'
      · rw [if_pos (by simp only [decide_eq_true_eq]; omega)]; rfl
      rw [if_neg (by simp only [decide_eq_true_eq]; omega)]
      have hu1 : A * B' ≤ 1000000000 * 1000000000 := Nat.mul_le_mul (by omega) (by omega)
      have hu2 : A' * B ≤ 1000000000 * 1000000000 := Nat.mul_le_mul (by omega) (by omega)
      have e1 : (A : Int) * (B' : Int) = ((A * B' : Nat) : Int) := by simp
      have e2 : (A' : Int) * (B : Int) = ((A' * B : Nat) : Int) := by simp
      rw [Option.bind_some, e1, e2]
      generalize A * B' = P at hcross hu1
      generalize A' * B = Q at hcross hu2
      simp only
      rw [w64_eq (by omega) (by omega), w64_eq (by omega) (by omega), if_pos (by simp only [decide_eq_true_eq]; omega)]
end Go.Proofs.Ytogfongmnkmegaa.Pad
