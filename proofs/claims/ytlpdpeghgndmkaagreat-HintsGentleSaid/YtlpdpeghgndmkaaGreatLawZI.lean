/- What the doors to the possible codes answer: the program's and the reference's. -/
import Derived.Test.YtlpdpeghgndmkaaGreatLawZH
set_option linter.unusedVariables false
set_option linter.unusedSimpArgs false
namespace Go.Proofs.YtlpdpeghgndmkaaGreat.Pad
open Go
def idxs (p : Nat → Bool) (k : Nat) : List Int := ((List.range k).filter p).map fun (i : Nat) => (i : Int)
theorem ju_ (p : Nat → Bool) (k : Nat) : idxs p (k + 1) = if p k then idxs p k ++ [(k : Int)] else idxs p k := by
  unfold idxs
  rw [List.range_succ, List.filter_append]
  cases hp : p k <;> simp [hp]
theorem idxs_len (p : Nat → Bool) (k : Nat) : (idxs p k).length ≤ k := by
  unfold idxs
  rw [List.length_map]
  have := List.length_filter_le p (List.range k)
  rwa [List.length_range] at this
theorem idxs_mem {p : Nat → Bool} {k : Nat} {x : Int} : x ∈ idxs p k ↔ 0 ≤ x ∧ x < k ∧ p x.toNat = true := by
  unfold idxs
  rw [List.mem_map]
  constructor
  · rintro ⟨i, hi, rfl⟩
    obtain ⟨h1, h2⟩ := List.mem_filter.1 hi
    have := List.mem_range.1 h1
    exact ⟨by omega, by omega, by simpa using h2⟩
  · rintro ⟨h1, h2, h3⟩
    exact ⟨x.toNat, List.mem_filter.2 ⟨List.mem_range.2 (by omega), h3⟩, by omega⟩
theorem forS_pick {p : Nat → Bool} {k : Nat} (hk : k ≤ 100000) {body : Nat → List Int → Option (List Int)} (h : ∀ j s, j < k → body j s = if p j then ((push? s ([(j : Int)] : List Int)).bind fun x => some x) else some s) : forS body k 0 [] = some (idxs p k) := by
  have := kb_ (k := k) (fun j => idxs p j) (body := body) (by
    intro j hj
    rw [h j _ hj, ju_]
    have := idxs_len p j
    cases hp : p j
    · rfl
    · rw [if_pos rfl, if_pos rfl, eu_ (by rw [List.length_singleton]; omega), Option.bind_some])
  exact this
noncomputable def posE (r : Riddle) (i : Int) : Int := if st r = 0 then (if wi i 0 (r.Locks.length - 1) then 0 else 1) else st r
theorem posE_zero {r : Riddle} {i : Int} (h : posE r i = 0) : st r = 0 ∧ 0 ≤ i ∧ i < r.Locks.length := by
  unfold posE at h
  by_cases hs : st r = 0
  · rw [if_pos hs] at h
    cases hw : wi i 0 (r.Locks.length - 1)
    · rw [hw] at h; simp at h
    · have := ey_.1 hw; exact ⟨hs, by omega, by omega⟩
  · rw [if_neg hs] at h; exact absurd h hs
theorem Good.w1 {r : Riddle} (g : Good r) : w64 ((r.Locks.length : Int) - 1) = r.Locks.length - 1 := by
  have := g.n1; have := g.n8; exact dz_ (by omega) (by omega)
theorem hints_newLock_eq (r : Riddle) (i : Int) : ht_ r i = some (if posE r i = 0 then ⟨some ⟨r, ez_ r⟩⟩ else ⟨none⟩, posE r i) := by
  unfold ht_ posE
  rw [fb_, Option.bind_some]
  by_cases hs : st r = 0
  · obtain ⟨g, _⟩ := oj_ hs
    rw [if_pos hs, if_pos hs]
    simp only [hs]
    rw [if_pos (by simp), g.w1, di_, Option.bind_some]
    cases wi i 0 (r.Locks.length - 1) <;> rfl
  · rw [if_neg hs, if_neg hs, if_neg hs, if_neg (by simpa using hs)]
theorem hints_Possible_eq (r : Riddle) (i : Int) : go_ r i = some (if posE r i = 0 then poss r i.toNat else [], posE r i) := by
  unfold go_
  rw [hints_newLock_eq, Option.bind_some]
  by_cases h : posE r i = 0
  · obtain ⟨hs, h0, h1⟩ := posE_zero h
    obtain ⟨g, _⟩ := oj_ hs
    simp only [h]
    rw [if_neg (by simp), if_pos trivial, Option.bind_some, lr_ g, Option.bind_some, fe_ h0 (possL_get (by omega)), Option.bind_some]
    rfl
  · rw [if_neg h, if_neg h, if_pos (by simpa using h)]
theorem cntL_get {r : Riddle} {i : Nat} (h : i < r.Locks.length) : (cntL r)[i]? = some ((poss r i).length : Int) := by
  unfold cntL; rw [List.getElem?_map, possL_get h]; rfl
theorem cntL_len (r : Riddle) : (cntL r).length = r.Locks.length := by unfold cntL; rw [List.length_map, possL_len]
theorem law07_Large_tot (r : Riddle) : ∃ b, jt_ r = some b := by
  unfold jt_
  rw [ref07_Check_eq, Option.bind_some]
  by_cases h : okR r = true
  rotate_left
  · have h' : okR r = false := by simpa using h
    rw [h']; exact ⟨_, rfl⟩
  have g := okR_iff.1 h
  rw [h, if_neg (by simp)]
  have := Tot.bind (Q := fun _ => True) _ (Tot.forN (σ := Int) (ρ := Bool) (k := r.Locks.length) (s := 1) (body := fun i1 s1 =>
     (at? r.Locks (i1 : Int)).bind fun x11 =>
     (at? r.Known (i1 : Int)).bind fun x12 =>
     (ll_ x11 x12).bind fun x13 =>
     if decide (200 < (w64 (s1 * (pe_ 201 (x13.length : Int))))) then
     (some (Sum.inr true))
     else
     (some (Sum.inl (w64 (s1 * (pe_ 201 (x13.length : Int)))))))
    (fun j s => 0 ≤ s ∧ s ≤ 200) (fun _ => True) ⟨by omega, by omega⟩ (by
      rintro j s hj ⟨h0, h1⟩
      obtain ⟨l, c, k, e1, e2, e3, a, b, d, e, f, z⟩ := g.at_ hj
      rw [cf_ e1, Option.bind_some, cf_ e3, Option.bind_some, ref01_All_eq a e, Option.bind_some]
      obtain ⟨m, hm, m0, m1⟩ : ∃ m, pe_ 201 ((rdg l k).length : Int) = m ∧ 0 ≤ m ∧ m ≤ 201 := ⟨_, rfl, by unfold pe_; split <;> omega, by unfold pe_; split <;> omega⟩
      rw [hm]
      have p0 : 0 ≤ s * m := Int.mul_nonneg h0 m0
      have p1 : s * m ≤ 200 * 201 := Int.mul_le_mul h1 m1 m0 (by omega)
      rw [dz_ (by omega) (by omega)]
      by_cases hc : 200 < s * m
      · rw [if_pos (decide_eq_true hc)]; exact Tot.pure trivial
      · rw [if_neg (by simpa using hc)]; exact Tot.pure ⟨p0, by omega⟩)) (f := fun o2 => onL o2 fun _ => some false) (fun o ho => Tot.onL (E := fun _ => True) ho (fun _ _ => Tot.pure trivial) (fun _ _ => trivial))
  obtain ⟨b, hb, _⟩ := this
  exact ⟨b, hb⟩
end Go.Proofs.YtlpdpeghgndmkaaGreat.Pad
