/- The gentlest and the strongest: the law holds. -/
import Derived.Test.YtlpdpeghgndmkaaGreatLawZN
import Derived.Test.YtlpdpeghgndmkaaGreatLawZM
set_option linter.unusedVariables false
set_option linter.unusedSimpArgs false
namespace Go.Proofs.YtlpdpeghgndmkaaGreat.Pad
open Go
theorem has_eq (l : List Int) (x : Int) : lo_ l x = some (decide (x ∈ l)) := by
  unfold lo_
  rw [nq_ (l := l) (p := fun y => !decide (y = x)) (r := true) (by
    intro j y hy
    rw [cf_ hy, Option.bind_some]
    by_cases e : y = x <;> simp [e]), Option.bind_some]
  by_cases h : x ∈ l
  · have : (l.all fun y => !decide (y = x)) = false := by
      rw [List.all_eq_false]; exact ⟨x, h, by simp⟩
    rw [this, decide_eq_true h]; rfl
  · have : (l.all fun y => !decide (y = x)) = true := by
      rw [List.all_eq_true]; intro y hy
      have : ¬ y = x := fun e => h (e ▸ hy)
      simp [this]
    rw [this, decide_eq_false h]; rfl
theorem foldB_max {r : Riddle} {pool : List Aid} : ∀ (L : List Int) (s : Int × Int), (∀ i ∈ L, 0 ≤ i) → (0 ≤ s.1 → s.2 ≤ (L.foldl (jg_ r pool more') s).2) ∧ ∀ i ∈ L, left r (ia_ pool i) ≤ (L.foldl (jg_ r pool more') s).2
  | [], s, _ => ⟨fun _ => Int.le_refl _, fun i hi => by cases hi⟩
  | x :: L, s, h => by
    rw [List.foldl_cons]
    obtain ⟨p, q⟩ := foldB_max L (jg_ r pool more' s x) (fun i hi => h i (by simp [hi]))
    have hx := h x (by simp)
    have h1 : 0 ≤ (jg_ r pool more' s x).1 ∧ (0 ≤ s.1 → s.2 ≤ (jg_ r pool more' s x).2) ∧ left r (ia_ pool x) ≤ (jg_ r pool more' s x).2 := by
      unfold jg_
      by_cases hc : s.1 < 0 ∨ more' (left r (ia_ pool x)) s.2 = true
      · rw [if_pos hc]
        refine ⟨hx, fun h0 => ?_, Int.le_refl _⟩
        rcases hc with hc | hc
        · omega
        · have := of_decide_eq_true hc; show s.2 ≤ left r (ia_ pool x); omega
      · rw [if_neg hc]
        have a1 : ¬ s.1 < 0 := fun q => hc (.inl q)
        have a2 : ¬ s.2 < left r (ia_ pool x) := fun q => hc (.inr (decide_eq_true q))
        exact ⟨by omega, fun _ => Int.le_refl _, by omega⟩
    have h2 := p h1.1
    refine ⟨fun h0 => Int.le_trans (h1.2.1 h0) h2, fun i hi => ?_⟩
    rcases List.mem_cons.1 hi with rfl | hi
    · exact Int.le_trans h1.2.2 h2
    · exact q i hi
theorem foldB_min {r : Riddle} {pool : List Aid} : ∀ (L : List Int) (s : Int × Int), (∀ i ∈ L, 0 ≤ i) → (0 ≤ s.1 → (L.foldl (jg_ r pool less') s).2 ≤ s.2) ∧ ∀ i ∈ L, (L.foldl (jg_ r pool less') s).2 ≤ left r (ia_ pool i)
  | [], s, _ => ⟨fun _ => Int.le_refl _, fun i hi => by cases hi⟩
  | x :: L, s, h => by
    rw [List.foldl_cons]
    obtain ⟨p, q⟩ := foldB_min L (jg_ r pool less' s x) (fun i hi => h i (by simp [hi]))
    have hx := h x (by simp)
    have h1 : 0 ≤ (jg_ r pool less' s x).1 ∧ (0 ≤ s.1 → (jg_ r pool less' s x).2 ≤ s.2) ∧ (jg_ r pool less' s x).2 ≤ left r (ia_ pool x) := by
      unfold jg_
      by_cases hc : s.1 < 0 ∨ less' (left r (ia_ pool x)) s.2 = true
      · rw [if_pos hc]
        refine ⟨hx, fun h0 => ?_, Int.le_refl _⟩
        rcases hc with hc | hc
        · omega
        · have := of_decide_eq_true hc; show left r (ia_ pool x) ≤ s.2; omega
      · rw [if_neg hc]
        have a1 : ¬ s.1 < 0 := fun q => hc (.inl q)
        have a2 : ¬ left r (ia_ pool x) < s.2 := fun q => hc (.inr (decide_eq_true q))
        exact ⟨by omega, fun _ => Int.le_refl _, by omega⟩
    have h2 := p h1.1
    refine ⟨fun h0 => Int.le_trans h2 (h1.2.1 h0), fun i hi => ?_⟩
    rcases List.mem_cons.1 hi with rfl | hi
    · exact Int.le_trans h2 h1.2.2
    · exact q i hi
theorem helps_facts {r : Riddle} {a : Aid} (h : lu_ r a = true) : behE r a = 0 ∧ left r a < ((poss r a.Lock.toNat).length : Int) ∧ 1 ≤ left r a ∧ (idxs (jd_ r (told r a)) r.Locks.length).filter (fun x => !(x == a.Lock)) = [] := by
  obtain ⟨hb, hf⟩ := helpsR_iff.1 h
  obtain ⟨g, _, hv, hu⟩ := lz_ hb
  obtain ⟨l, c, k, h0, h1, _⟩ := jn_ g hv
  have g2 := jo_ g hv hu
  refine ⟨hb, ?_, ?_, ?_⟩
  · have : a.Lock ∈ idxs (jd_ r (told r a)) r.Locks.length := by rw [hf]; simp
    have h2 := (idxs_mem.1 this).2.2
    unfold jd_ at h2
    have h3 := of_decide_eq_true h2
    unfold left; omega
  · obtain ⟨c, hc⟩ := ca_ (l := (told r a).Codes) (i := a.Lock.toNat) (by rw [g2.hc]; show _ < r.Locks.length; omega)
    have := List.length_pos_of_mem (code_poss g2 hc)
    unfold left; omega
  · rw [hf]; simp
theorem nw_ (r : Riddle) (pool : List Aid) (l : Int) : gb_ r pool l = some true := by
  unfold gb_
  obtain ⟨b, hb⟩ := law07_Large_tot r
  rw [hb, Option.bind_some, law07_works_eq]
  cases b
  rotate_left
  · rfl
  rw [if_neg (by simp)]
  by_cases h6 : 6 < pool.length
  · rw [if_pos (by simp; omega)]; rfl
  rw [if_neg (by simp; omega), hints_Allowed_eq, hints_Gentle_eq, hints_Strong_eq, Option.bind_some, Option.bind_some, Option.bind_some]
  unfold choose'
  by_cases h : allE r pool l = 0
  rotate_left
  · rw [if_neg h, if_neg h, if_neg h, if_pos (by simpa using h), if_pos (by simp), if_pos (by simp)]; rfl
  obtain ⟨hp, h0, h1⟩ := allE_zero h
  obtain ⟨g, hf, hn, hv⟩ := poolE_zero hp
  rw [if_pos h, if_pos h, if_pos h, if_neg (by simp)]
  rcases pa_ r pool l more' with ⟨e1, e2⟩ | ⟨e1, e2⟩
  · rcases pa_ r pool l less' with ⟨f1, f2⟩ | ⟨f1, f2⟩
    · rw [e2, e1, f1]; rfl
    · rw [e2] at f1; cases f1
  rcases pa_ r pool l less' with ⟨f1, f2⟩ | ⟨f1, f2⟩
  · rw [f2] at e1; cases e1
  obtain ⟨x0, x1, x2, x3, x4⟩ := chL_mem e1
  obtain ⟨y0, y1, y2, y3, y4⟩ := chL_mem f1
  have hmax := (foldB_max (r := r) (pool := pool) (chL r pool l) (-1, 0) (fun i hi => (chL_mem hi).1)).2
  have hmin := (foldB_min (r := r) (pool := pool) (chL r pool l) (-1, 0) (fun i hi => (chL_mem hi).1)).2
  have hmax' : ∀ i ∈ chL r pool l, left r (ia_ pool i) ≤ left r (ia_ pool (pb_ r pool l more').1) := fun i hi => by rw [← e2]; exact hmax i hi
  have hmin' : ∀ i ∈ chL r pool l, left r (ia_ pool (pb_ r pool l less').1) ≤ left r (ia_ pool i) := fun i hi => by rw [← f2]; exact hmin i hi
  have hpe : posE r l = 0 := by unfold posE; rw [if_pos (st_good g hf), ey_.2 (by omega)]; rfl
  have hne : ¬ ((chL r pool l).length : Int) = 0 := by have := List.length_pos_of_mem e1; omega
  have hnx : ¬ (pb_ r pool l more').1 < 0 := by omega
  have hny : ¬ (pb_ r pool l less').1 < 0 := by omega
  rw [if_neg hnx, if_neg hny]
  simp only
  rw [if_neg (by simpa using hne), hints_Possible_eq, Option.bind_some, if_pos hpe, if_neg (by simp), if_neg (by simp), hpe, if_neg (by simp), has_eq, decide_eq_true e1, Option.bind_some, if_neg (by simp), has_eq, decide_eq_true f1, Option.bind_some, if_neg (by simp)]
  generalize (pb_ r pool l more').1 = x at *
  generalize (pb_ r pool l less').1 = y at *
  have hlv : ∀ i ∈ chL r pool l, et_ r (ia_ pool i) = some (left r (ia_ pool i), 0) := fun i hi => by
    rw [hints_Leaves_eq, if_pos (helps_facts (chL_mem hi).2.2.2.2).1]; rfl
  rw [fe_ x0 x2, Option.bind_some, hlv x e1, Option.bind_some, fe_ y0 y2, Option.bind_some, hlv y f1, Option.bind_some, if_neg (by simp), if_neg (by simp)]
  rw [nq_ (l := chL r pool l) (p := fun _ => true) (r := false) (by
    intro j i hi
    have him := List.mem_of_getElem? hi
    obtain ⟨z0, z1, z2, z3, z4⟩ := chL_mem him
    obtain ⟨k1, k2, k3, k4⟩ := helps_facts z4
    have m1 := hmax' i him
    have m2 := hmin' i him
    rw [z3] at k2
    rw [cf_ hi, Option.bind_some, if_neg (by simp; omega), Option.bind_some, if_neg (by simp; omega), Option.bind_some, fe_ z0 z2, Option.bind_some, hlv i him, Option.bind_some, Option.bind_some, fe_ z0 z2, Option.bind_some, nb_, if_pos k1, Option.bind_some, if_neg (by simp), if_neg (by simp), if_neg (by simp; omega), if_neg (by simp; omega), if_neg (by simp; omega), if_neg (by simp; omega), k4]
    rfl), Option.bind_some, show ((chL r pool l).all fun _ => true) = true by simp, if_pos rfl]
  rfl
end Go.Proofs.YtlpdpeghgndmkaaGreat.Pad
