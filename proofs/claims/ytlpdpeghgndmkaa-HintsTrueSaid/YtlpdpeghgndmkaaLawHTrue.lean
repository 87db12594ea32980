/- The true codes stay possible, whatever is told: the law holds. -/
import Derived.Test.YtlpdpeghgndmkaaLawHM
set_option linter.unusedVariables false
set_option linter.unusedSimpArgs false
namespace Go.Proofs.Ytlpdpeghgndmkaa.Pad
open Go
theorem law07_HintsTrue_eq (r : Riddle) (as_ : List Aid) : hb_ r as_ = some true := by
  unfold hb_
  obtain ⟨b, hb⟩ := law07_Large_tot r
  rw [show (⟨r.Locks, r.Codes, r.Known, r.Ties⟩ : Riddle) = r from rfl, hb, Option.bind_some, law07_works_eq]
  cases b
  rotate_left
  · rfl
  rw [if_neg (by simp)]
  by_cases h6 : 6 < as_.length
  · rw [if_pos (by simp; omega)]; rfl
  rw [if_neg (by simp; omega), mu_, Option.bind_some]
  by_cases hok : okR r = true
  rotate_left
  · have h' : okR r = false := by simpa using hok
    rw [h']; rfl
  rw [hok, if_pos rfl, if_neg (by simp)]
  have g0 := okR_iff.1 hok
  have f0 := large_fit g0 hb
  have hw := ir_ (σ := (List CodeLock) × (List (List Int)) × (List (List Clue)) × (List Tie) × Int) (ρ := ((List CodeLock) × (List (List Int)) × (List (List Clue)) × (List Tie) × Int) ⊕ Bool) (body := fun s13 =>
     if decide (s13.2.2.2.2 < (as_.length : Int)) then
     (((if decide (0 ≤ s13.2.2.2.2) then
     ((at? as_ s13.2.2.2.2).bind fun x119 =>
     (iw_ (⟨s13.1, s13.2.1, s13.2.2.1, s13.2.2.2.1⟩ : Riddle) x119).bind fun x120 =>
     if x120.2 != 0 then
     (some (Sum.inr (Sum.inl (s13.1, s13.2.1, s13.2.2.1, s13.2.2.2.1, w64 (s13.2.2.2.2 + 1)))))
     else
     (some (Sum.inl (x120.1.Locks, x120.1.Codes, x120.1.Known, x120.1.Ties))))
     else
     (some (Sum.inl (s13.1, s13.2.1, s13.2.2.1, s13.2.2.2.1)))) : Option (((List CodeLock) × (List (List Int)) × (List (List Clue)) × (List Tie)) ⊕ _)).bind fun ov7 => onL ov7 fun v7 =>
     (jc_ (⟨v7.1, v7.2.1, v7.2.2.1, v7.2.2.2⟩ : Riddle)).bind fun x121 =>
     (ee_ (⟨v7.1, v7.2.1, v7.2.2.1, v7.2.2.2⟩ : Riddle)).bind fun x122 =>
     if !x121.2 then
     (some (Sum.inr (Sum.inr false)))
     else
     (if x122.2 != 0 then
     (some (Sum.inr (Sum.inr false)))
     else
     (if decide (x122.1 < 1) then
     (some (Sum.inr (Sum.inr false)))
     else
     ((forN (σ := (Unit)) (fun i7 s14 =>
     (at? x121.1 (i7 : Int)).bind fun x132 =>
     (at? v7.2.1 (i7 : Int)).bind fun x133 =>
     (fo_ x132 x133).bind fun x134 =>
     if !x134 then
     (some (Sum.inr (Sum.inr (Sum.inr false))))
     else
     (some (Sum.inl ()))) x121.1.length 0 ()).bind fun o16 => onL o16 fun out8 =>
     some (Sum.inl (v7.1, v7.2.1, v7.2.2.1, v7.2.2.2, w64 (s13.2.2.2.2 + 1)))))))
     else
     (some (Sum.inr (Sum.inl (s13.1, s13.2.1, s13.2.2.1, s13.2.2.2.1, s13.2.2.2.2)))))
    (fun j s => ∃ q : Riddle, s = (q.Locks, q.Codes, q.Known, q.Ties, (j : Int) - 1) ∧ Good q ∧ fitW q = true) (fun o => ∃ s, o = .inl s) (as_.length + 1) 0 (r.Locks, r.Codes, r.Known, r.Ties, -1) ⟨r, rfl, g0, f0⟩ (by
    rintro j s _ hj ⟨q, rfl, g, hf⟩
    have tail : ∀ q : Riddle, Good q → fitW q = true → ((jc_ q).bind fun x121 =>
       (ee_ q).bind fun x122 =>
       if !x121.2 then
       (some (Sum.inr (Sum.inr false)))
       else
       (if x122.2 != 0 then
       (some (Sum.inr (Sum.inr false)))
       else
       (if decide (x122.1 < 1) then
       (some (Sum.inr (Sum.inr false)))
       else
       ((forN (σ := (Unit)) (fun i7 s14 =>
       (at? x121.1 (i7 : Int)).bind fun x132 =>
       (at? q.Codes (i7 : Int)).bind fun x133 =>
       (fo_ x132 x133).bind fun x134 =>
       if !x134 then
       (some (Sum.inr (Sum.inr (Sum.inr false))))
       else
       (some (Sum.inl ()))) x121.1.length 0 ()).bind fun o16 => onL o16 fun out8 =>
       (some (Sum.inl (q.Locks, q.Codes, q.Known, q.Ties, w64 ((j : Int) - 1 + 1))) : Option (((List CodeLock) × (List (List Int)) × (List (List Clue)) × (List Tie) × Int) ⊕ (((List CodeLock) × (List (List Int)) × (List (List Clue)) × (List Tie) × Int) ⊕ Bool))))))) = some (.inl (q.Locks, q.Codes, q.Known, q.Ties, (j : Int))) := by
      intro q g hf
      have hs := st_good g hf
      have hp := Wc_pos g
      rw [law07_all_eq hs, Option.bind_some, lz_, if_pos hs, Option.bind_some, if_neg (by simp), if_neg (by simp), if_neg (by simp; omega)]
      rw [mm_ (l := lr_ q) (p := fun _ => true) (r := (Sum.inr (Sum.inr false) : ((List CodeLock) × (List (List Int)) × (List (List Clue)) × (List Tie) × Int) ⊕ (((List CodeLock) × (List (List Int)) × (List (List Clue)) × (List Tie) × Int) ⊕ Bool))) (by
        intro i x hx
        have hi : i < q.Locks.length := by have := lt_of_get? hx; rwa [lq_] at this
        rw [kj_ hi] at hx
        obtain rfl := Option.some.inj hx
        obtain ⟨c, hc⟩ := ca_ (l := q.Codes) (i := i) (by rw [g.hc]; exact hi)
        rw [bz_ (kj_ hi), Option.bind_some, bz_ hc, Option.bind_some, holds_mem (code_poss g hc)]
        rfl), Option.bind_some, show ((lr_ q).all fun _ => true) = true by simp, if_pos rfl]
      show some (Sum.inl _) = _
      rw [show ((j : Int) - 1 + 1) = (j : Int) by omega, di_ (by omega) (by omega)]
    simp only
    rw [if_pos (by simp; omega)]
    by_cases h0 : j = 0
    · subst h0
      refine .inl ⟨_, ?_, q, rfl, g, hf⟩
      rw [if_neg (by simp), Option.bind_some]
      have := tail q g hf
      simp only [onL] at this ⊢
      rw [this]
      rfl
    · obtain ⟨a, ha⟩ := ca_ (l := as_) (i := j - 1) (by omega)
      rw [if_pos (by simp; omega), show ((j : Int) - 1) = (((j - 1 : Nat)) : Int) by omega, bz_ ha, Option.bind_some, hints_Tell_eq, Option.bind_some]
      by_cases hbe : behE q a = 0
      · obtain ⟨_, _, hv, hu⟩ := behE_zero hbe
        have := tail (told q a) (lj_ g hv hu) (told_fit g hv hu hf)
        refine .inl ⟨_, ?_, told q a, rfl, lj_ g hv hu, told_fit g hv hu hf⟩
        rw [show (⟨q.Locks, q.Codes, q.Known, q.Ties⟩ : Riddle) = q from rfl, if_pos hbe, if_neg (by simp), Option.bind_some]
        rw [show ((j : Int) - 1) = (((j - 1 : Nat)) : Int) by omega] at this
        simp only [onL] at this ⊢
        rw [this]
        rw [show (((j + 1 : Nat) : Int) - 1) = (j : Int) by omega]
      · refine .inl ⟨_, ?_, q, rfl, g, hf⟩
        rw [show (⟨q.Locks, q.Codes, q.Known, q.Ties⟩ : Riddle) = q from rfl, if_neg hbe, if_pos (by simpa using hbe), Option.bind_some]
        show some (Sum.inl _) = _
        rw [show ((((j - 1 : Nat)) : Int) + 1) = (((j + 1 : Nat) : Int) - 1) by omega, di_ (by omega) (by omega)]) (by
    rintro s ⟨q, rfl, g, hf⟩
    refine ⟨.inl (q.Locks, q.Codes, q.Known, q.Ties, ((0 + (as_.length + 1) : Nat) : Int) - 1), ?_, _, rfl⟩
    rw [if_neg (by simp)])
  obtain ⟨o, o1, s, rfl⟩ := hw
  refine (congrArg (fun o => Option.bind o _) o1).trans ?_
  rfl
end Go.Proofs.Ytlpdpeghgndmkaa.Pad
