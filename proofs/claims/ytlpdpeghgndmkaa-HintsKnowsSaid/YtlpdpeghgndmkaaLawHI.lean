/- What the doors to the possible codes answer: the program's and the reference's. -/
import Derived.Test.YtlpdpeghgndmkaaLawHH
set_option linter.unusedVariables false
set_option linter.unusedSimpArgs false
namespace Go.Proofs.Ytlpdpeghgndmkaa.Pad
open Go
def idxs (p : Nat → Bool) (k : Nat) : List Int := ((List.range k).filter p).map fun (i : Nat) => (i : Int)
theorem idxs_succ (p : Nat → Bool) (k : Nat) : idxs p (k + 1) = if p k then idxs p k ++ [(k : Int)] else idxs p k := by
  unfold idxs
  rw [List.range_succ, List.filter_append]
  cases hp : p k <;> simp [hp]
theorem idxs_len (p : Nat → Bool) (k : Nat) : (idxs p k).length ≤ k := by
  unfold idxs
  rw [List.length_map]
  have := List.length_filter_le p (List.range k)
  rwa [List.length_range] at this
theorem forS_pick {p : Nat → Bool} {k : Nat} (hk : k ≤ 100000) {body : Nat → List Int → Option (List Int)} (h : ∀ j s, j < k → body j s = if p j then ((push? s ([(j : Int)] : List Int)).bind fun x => some x) else some s) : forS body k 0 [] = some (idxs p k) := by
  have := gg_ (k := k) (fun j => idxs p j) (body := body) (by
    intro j hj
    rw [h j _ hj, idxs_succ]
    have := idxs_len p j
    cases hp : p j
    · rfl
    · rw [if_pos rfl, if_pos rfl, dm_ (by rw [List.length_singleton]; omega), Option.bind_some])
  exact this
noncomputable def posE (r : Riddle) (i : Int) : Int := if st r = 0 then (if wi i 0 (r.Locks.length - 1) then 0 else 1) else st r
theorem posE_zero {r : Riddle} {i : Int} (h : posE r i = 0) : st r = 0 ∧ 0 ≤ i ∧ i < r.Locks.length := by
  unfold posE at h
  by_cases hs : st r = 0
  · rw [if_pos hs] at h
    cases hw : wi i 0 (r.Locks.length - 1)
    · rw [hw] at h; simp at h
    · have := fu_.1 hw; exact ⟨hs, by omega, by omega⟩
  · rw [if_neg hs] at h; exact absurd h hs
theorem Good.w1 {r : Riddle} (g : Good r) : w64 ((r.Locks.length : Int) - 1) = r.Locks.length - 1 := by
  have := g.n1; have := g.n8; exact eh_ (by omega) (by omega)
theorem md_ (r : Riddle) (i : Int) : go_ r i = some (if posE r i = 0 then ⟨some ⟨r, eg_ r⟩⟩ else ⟨none⟩, posE r i) := by
  unfold go_ posE
  rw [ff_, Option.bind_some]
  by_cases hs : st r = 0
  · obtain ⟨g, _⟩ := kp_ hs
    rw [if_pos hs, if_pos hs]
    simp only [hs]
    rw [if_pos (by simp), g.w1, ei_, Option.bind_some]
    cases wi i 0 (r.Locks.length - 1) <;> rfl
  · rw [if_neg hs, if_neg hs, if_neg hs, if_neg (by simpa using hs)]
theorem ref07_checkLock_eq (r : Riddle) (i : Int) : fy_ r i = some (posE r i) := by
  unfold fy_ posE
  rw [je_, Option.bind_some]
  by_cases hs : st r = 0
  · obtain ⟨g, _⟩ := kp_ hs
    rw [if_pos hs, hs, if_neg (by simp), g.w1, jn_, Option.bind_some]
    cases wi i 0 (r.Locks.length - 1) <;> rfl
  · rw [if_neg hs, if_pos (by simpa using hs)]
theorem hints_Possible_eq (r : Riddle) (i : Int) : gv_ r i = some (if posE r i = 0 then poss r i.toNat else [], posE r i) := by
  unfold gv_
  rw [md_, Option.bind_some]
  by_cases h : posE r i = 0
  · obtain ⟨hs, h0, h1⟩ := posE_zero h
    obtain ⟨g, _⟩ := kp_ hs
    simp only [h]
    rw [if_neg (by simp), if_pos trivial, Option.bind_some, ii_ g, Option.bind_some, fi_ h0 (possL_get (by omega)), Option.bind_some]
    rfl
  · rw [if_neg h, if_neg h, if_pos (by simpa using h)]
theorem lk_ (r : Riddle) (i : Int) : fj_ r i = some (if posE r i = 0 then poss r i.toNat else [], posE r i) := by
  unfold fj_
  rw [ref07_checkLock_eq, Option.bind_some]
  by_cases h : posE r i = 0
  · obtain ⟨hs, h0, h1⟩ := posE_zero h
    obtain ⟨g, hf⟩ := kp_ hs
    rw [h, if_neg (by simp), if_pos rfl, mk_ g hf, Option.bind_some]
    have := lh_ g (i := i.toNat) (by omega)
    rw [show ((i.toNat : Nat) : Int) = i by omega] at this
    rw [this, Option.bind_some]
  · rw [if_neg h, if_pos (by simpa using h)]
noncomputable def oneLeft (r : Riddle) (i : Nat) : Bool := decide ((poss r i).length = 1)
theorem cntL_get {r : Riddle} {i : Nat} (h : i < r.Locks.length) : (cntL r)[i]? = some ((poss r i).length : Int) := by
  unfold cntL; rw [List.getElem?_map, possL_get h]; rfl
theorem cntL_len (r : Riddle) : (cntL r).length = r.Locks.length := by unfold cntL; rw [List.length_map, possL_len]
theorem hints_Sure_eq (r : Riddle) : lo_ r = some (if st r = 0 then idxs (oneLeft r) r.Locks.length else [], st r) := by
  unfold lo_
  rw [ff_, Option.bind_some]
  by_cases hs : st r = 0
  · obtain ⟨g, _⟩ := kp_ hs
    have n8 := g.n8
    simp only [hs]
    rw [if_neg (by simp), if_pos trivial, Option.bind_some, js_ g, Option.bind_some, cntL_len, forS_pick (p := oneLeft r) (by omega) (by
      intro j s hj
      rw [bq_ (cntL_get hj), Option.bind_some]
      unfold oneLeft
      by_cases h1 : (poss r j).length = 1
      · rw [if_pos (by simp [h1]), if_pos (by simp [h1])]
      · rw [if_neg (by simp; omega), if_neg (by simp [h1])]), Option.bind_some]
    rfl
  · rw [if_neg hs, if_neg hs, if_pos (by simpa using hs)]
theorem ref07_counts_eq {r : Riddle} (g : Good r) (hf : fitW r = true) : iu_ r = some (cntL r) := by
  unfold iu_
  have n8 := g.n8
  rw [mk_ g hf, Option.bind_some]
  have hloop := gg_ (k := r.Locks.length) (fun j => (cntL r).take j) (body := fun i1 s1 =>
     (en_ r (Wc r) (i1 : Int)).bind fun x8 =>
     (push? s1 ([(x8.length : Int)] : List Int)).bind fun x9 =>
     some x9) (by
    intro j hj
    rw [lh_ g hj, Option.bind_some, dm_ (by rw [List.length_take, List.length_singleton]; omega), Option.bind_some, ko_ (cntL_get hj)])
  refine (congrArg (fun o => Option.bind o _) (show forS (σ := List Int) _ r.Locks.length 0 [] = _ from hloop)).trans ?_
  rw [Option.bind_some, ← cntL_len, List.take_length]
theorem ref07_Sure_eq (r : Riddle) : li_ r = some (if st r = 0 then idxs (oneLeft r) r.Locks.length else [], st r) := by
  unfold li_
  rw [je_, Option.bind_some]
  by_cases hs : st r = 0
  · obtain ⟨g, hf⟩ := kp_ hs
    have n8 := g.n8
    rw [hs, if_neg (by simp), if_pos rfl, ref07_counts_eq g hf, Option.bind_some, cntL_len, forS_pick (p := oneLeft r) (by omega) (by
      intro j s hj
      rw [bq_ (cntL_get hj), Option.bind_some]
      unfold oneLeft
      by_cases h1 : (poss r j).length = 1
      · rw [if_pos (by simp [h1]), if_pos (by simp [h1])]
      · rw [if_neg (by simp; omega), if_neg (by simp [h1])]), Option.bind_some]
  · rw [if_neg hs, if_pos (by simpa using hs)]
theorem law07_Large_tot (r : Riddle) : ∃ b, jq_ r = some b := by
  unfold jq_
  rw [ks_, Option.bind_some]
  by_cases h : okR r = true
  rotate_left
  · have h' : okR r = false := by simpa using h
    rw [h']; exact ⟨_, rfl⟩
  have g := okR_iff.1 h
  rw [h, if_neg (by simp)]
  have := Tot.bind (Q := fun _ => True) _ (Tot.forN (σ := Int) (ρ := Bool) (k := r.Locks.length) (s := 1) (body := fun i1 s1 =>
     (at? r.Locks (i1 : Int)).bind fun x11 =>
     (at? r.Known (i1 : Int)).bind fun x12 =>
     (ga_ x11 x12).bind fun x13 =>
     if decide (200 < (w64 (s1 * (nn_ 201 (x13.length : Int))))) then
     (some (Sum.inr true))
     else
     (some (Sum.inl (w64 (s1 * (nn_ 201 (x13.length : Int)))))))
    (fun j s => 0 ≤ s ∧ s ≤ 200) (fun _ => True) ⟨by omega, by omega⟩ (by
      rintro j s hj ⟨h0, h1⟩
      obtain ⟨l, c, k, e1, e2, e3, a, b, d, e, f, z⟩ := g.at_ hj
      rw [bq_ e1, Option.bind_some, bq_ e3, Option.bind_some, kf_ a e, Option.bind_some]
      obtain ⟨m, hm, m0, m1⟩ : ∃ m, nn_ 201 ((rdg l k).length : Int) = m ∧ 0 ≤ m ∧ m ≤ 201 := ⟨_, rfl, by unfold nn_; split <;> omega, by unfold nn_; split <;> omega⟩
      rw [hm]
      have p0 : 0 ≤ s * m := Int.mul_nonneg h0 m0
      have p1 : s * m ≤ 200 * 201 := Int.mul_le_mul h1 m1 m0 (by omega)
      rw [eh_ (by omega) (by omega)]
      by_cases hc : 200 < s * m
      · rw [if_pos (decide_eq_true hc)]; exact Tot.pure trivial
      · rw [if_neg (by simpa using hc)]; exact Tot.pure ⟨p0, by omega⟩)) (f := fun o2 => onL o2 fun _ => some false) (fun o ho => Tot.onL (E := fun _ => True) ho (fun _ _ => Tot.pure trivial) (fun _ _ => trivial))
  obtain ⟨b, hb, _⟩ := this
  exact ⟨b, hb⟩
theorem sameLists_refl {a : List (List Int)} : gd_ a a = some true := by
  unfold gd_
  rw [if_neg (by simp), ng_ (l := a) (p := fun _ => true) (r := false) (by
    intro j x hx
    rw [bq_ hx, Option.bind_some, Option.bind_some, es_, Option.bind_some]
    simp), Option.bind_some]
  simp [onL]
end Go.Proofs.Ytlpdpeghgndmkaa.Pad
