/- What the doors to the possible codes answer: the program's and the reference's. -/
import Derived.Test.YtlpdpeghgndmkaaLawHH
set_option linter.unusedVariables false
set_option linter.unusedSimpArgs false
namespace Go.Proofs.Ytlpdpeghgndmkaa.Pad
open Go
def idxs (p : Nat → Bool) (k : Nat) : List Int := ((List.range k).filter p).map fun (i : Nat) => (i : Int)
theorem idxs_succ (p : Nat → Bool) (k : Nat) : idxs p (k + 1) = if p k then idxs p k ++ [(k : Int)] else idxs p k := by
  unfold idxs
  rw [List.range_succ, List.filter_append]
  cases hp : p k <;> simp [hp]
theorem idxs_len (p : Nat → Bool) (k : Nat) : (idxs p k).length ≤ k := by
  unfold idxs
  rw [List.length_map]
  have := List.length_filter_le p (List.range k)
  rwa [List.length_range] at this
theorem idxs_mem {p : Nat → Bool} {k : Nat} {x : Int} : x ∈ idxs p k ↔ 0 ≤ x ∧ x < k ∧ p x.toNat = true := by
  unfold idxs
  rw [List.mem_map]
  constructor
  · rintro ⟨i, hi, rfl⟩
    obtain ⟨h1, h2⟩ := List.mem_filter.1 hi
    have := List.mem_range.1 h1
    exact ⟨by omega, by omega, by simpa using h2⟩
  · rintro ⟨h1, h2, h3⟩
    exact ⟨x.toNat, List.mem_filter.2 ⟨List.mem_range.2 (by omega), h3⟩, by omega⟩
theorem forS_pick {p : Nat → Bool} {k : Nat} (hk : k ≤ 100000) {body : Nat → List Int → Option (List Int)} (h : ∀ j s, j < k → body j s = if p j then ((push? s ([(j : Int)] : List Int)).bind fun x => some x) else some s) : forS body k 0 [] = some (idxs p k) := by
  have := gl_ (k := k) (fun j => idxs p j) (body := body) (by
    intro j hj
    rw [h j _ hj, idxs_succ]
    have := idxs_len p j
    cases hp : p j
    · rfl
    · rw [if_pos rfl, if_pos rfl, cx_ (by rw [List.length_singleton]; omega), Option.bind_some])
  exact this
noncomputable def posE (r : Riddle) (i : Int) : Int := if st r = 0 then (if wi i 0 (r.Locks.length - 1) then 0 else 1) else st r
theorem posE_zero {r : Riddle} {i : Int} (h : posE r i = 0) : st r = 0 ∧ 0 ≤ i ∧ i < r.Locks.length := by
  unfold posE at h
  by_cases hs : st r = 0
  · rw [if_pos hs] at h
    cases hw : wi i 0 (r.Locks.length - 1)
    · rw [hw] at h; simp at h
    · have := ey_.1 hw; exact ⟨hs, by omega, by omega⟩
  · rw [if_neg hs] at h; exact absurd h hs
theorem Good.w1 {r : Riddle} (g : Good r) : w64 ((r.Locks.length : Int) - 1) = r.Locks.length - 1 := by
  have := g.n1; have := g.n8; exact eb_ (by omega) (by omega)
theorem ly_ (r : Riddle) (i : Int) : ge_ r i = some (if posE r i = 0 then ⟨some ⟨r, dv_ r⟩⟩ else ⟨none⟩, posE r i) := by
  unfold ge_ posE
  rw [fb_, Option.bind_some]
  by_cases hs : st r = 0
  · obtain ⟨g, _⟩ := jm_ hs
    rw [if_pos hs, if_pos hs]
    simp only [hs]
    rw [if_pos (by simp), g.w1, ee_, Option.bind_some]
    cases wi i 0 (r.Locks.length - 1) <;> rfl
  · rw [if_neg hs, if_neg hs, if_neg hs, if_neg (by simpa using hs)]
theorem ref07_checkLock_eq (r : Riddle) (i : Int) : jp_ r i = some (posE r i) := by
  unfold jp_ posE
  rw [ref07_Checked_eq, Option.bind_some]
  by_cases hs : st r = 0
  · obtain ⟨g, _⟩ := jm_ hs
    rw [if_pos hs, hs, if_neg (by simp), g.w1, jo_, Option.bind_some]
    cases wi i 0 (r.Locks.length - 1) <;> rfl
  · rw [if_neg hs, if_pos (by simpa using hs)]
theorem lh_ (r : Riddle) (i : Int) : fg_ r i = some (if posE r i = 0 then poss r i.toNat else [], posE r i) := by
  unfold fg_
  rw [ly_, Option.bind_some]
  by_cases h : posE r i = 0
  · obtain ⟨hs, h0, h1⟩ := posE_zero h
    obtain ⟨g, _⟩ := jm_ hs
    simp only [h]
    rw [if_neg (by simp), if_pos trivial, Option.bind_some, ih_ g, Option.bind_some, fe_ h0 (iv_ (by omega)), Option.bind_some]
    rfl
  · rw [if_neg h, if_neg h, if_pos (by simpa using h)]
theorem ref07_Possible_eq (r : Riddle) (i : Int) : kq_ r i = some (if posE r i = 0 then poss r i.toNat else [], posE r i) := by
  unfold kq_
  rw [ref07_checkLock_eq, Option.bind_some]
  by_cases h : posE r i = 0
  · obtain ⟨hs, h0, h1⟩ := posE_zero h
    obtain ⟨g, hf⟩ := jm_ hs
    rw [h, if_neg (by simp), if_pos rfl, ref07_all_eq g hf, Option.bind_some]
    have := ref07_possible_eq g (i := i.toNat) (by omega)
    rw [show ((i.toNat : Nat) : Int) = i by omega] at this
    rw [this, Option.bind_some]
  · rw [if_neg h, if_pos (by simpa using h)]
noncomputable def ks_ (r : Riddle) (i : Nat) : Bool := decide ((poss r i).length = 1)
theorem cntL_get {r : Riddle} {i : Nat} (h : i < r.Locks.length) : (cntL r)[i]? = some ((poss r i).length : Int) := by
  unfold cntL; rw [List.getElem?_map, iv_ h]; rfl
theorem cntL_len (r : Riddle) : (cntL r).length = r.Locks.length := by unfold cntL; rw [List.length_map, mi_]
theorem hints_Sure_eq (r : Riddle) : jj_ r = some (if st r = 0 then idxs (ks_ r) r.Locks.length else [], st r) := by
  unfold jj_
  rw [fb_, Option.bind_some]
  by_cases hs : st r = 0
  · obtain ⟨g, _⟩ := jm_ hs
    have n8 := g.n8
    simp only [hs]
    rw [if_neg (by simp), if_pos trivial, Option.bind_some, js_ g, Option.bind_some, cntL_len, forS_pick (p := ks_ r) (by omega) (by
      intro j s hj
      rw [bk_ (cntL_get hj), Option.bind_some]
      unfold ks_
      by_cases h1 : (poss r j).length = 1
      · rw [if_pos (by simp [h1]), if_pos (by simp [h1])]
      · rw [if_neg (by simp; omega), if_neg (by simp [h1])]), Option.bind_some]
    rfl
  · rw [if_neg hs, if_neg hs, if_pos (by simpa using hs)]
theorem law07_Large_tot (r : Riddle) : ∃ b, jq_ r = some b := by
  unfold jq_
  rw [nh_, Option.bind_some]
  by_cases h : okR r = true
  rotate_left
  · have h' : okR r = false := by simpa using h
    rw [h']; exact ⟨_, rfl⟩
  have g := okR_iff.1 h
  rw [h, if_neg (by simp)]
  have := Tot.bind (Q := fun _ => True) _ (Tot.forN (σ := Int) (ρ := Bool) (k := r.Locks.length) (s := 1) (body := fun i1 s1 =>
     (at? r.Locks (i1 : Int)).bind fun x11 =>
     (at? r.Known (i1 : Int)).bind fun x12 =>
     (fs_ x11 x12).bind fun x13 =>
     if decide (200 < (w64 (s1 * (nk_ 201 (x13.length : Int))))) then
     (some (Sum.inr true))
     else
     (some (Sum.inl (w64 (s1 * (nk_ 201 (x13.length : Int)))))))
    (fun j s => 0 ≤ s ∧ s ≤ 200) (fun _ => True) ⟨by omega, by omega⟩ (by
      rintro j s hj ⟨h0, h1⟩
      obtain ⟨l, c, k, e1, e2, e3, a, b, d, e, f, z⟩ := g.at_ hj
      rw [bk_ e1, Option.bind_some, bk_ e3, Option.bind_some, ke_ a e, Option.bind_some]
      obtain ⟨m, hm, m0, m1⟩ : ∃ m, nk_ 201 ((rdg l k).length : Int) = m ∧ 0 ≤ m ∧ m ≤ 201 := ⟨_, rfl, by unfold nk_; split <;> omega, by unfold nk_; split <;> omega⟩
      rw [hm]
      have p0 : 0 ≤ s * m := Int.mul_nonneg h0 m0
      have p1 : s * m ≤ 200 * 201 := Int.mul_le_mul h1 m1 m0 (by omega)
      rw [eb_ (by omega) (by omega)]
      by_cases hc : 200 < s * m
      · rw [if_pos (decide_eq_true hc)]; exact Tot.pure trivial
      · rw [if_neg (by simpa using hc)]; exact Tot.pure ⟨p0, by omega⟩)) (f := fun o2 => onL o2 fun _ => some false) (fun o ho => Tot.onL (E := fun _ => True) ho (fun _ _ => Tot.pure trivial) (fun _ _ => trivial))
  obtain ⟨b, hb, _⟩ := this
  exact ⟨b, hb⟩
end Go.Proofs.Ytlpdpeghgndmkaa.Pad
