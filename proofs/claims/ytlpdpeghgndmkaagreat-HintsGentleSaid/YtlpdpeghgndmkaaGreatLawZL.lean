/- Pools of aids: what is allowed, the best of it, ladders. -/
import Derived.Test.YtlpdpeghgndmkaaGreatLawZK
set_option linter.unusedVariables false
set_option linter.unusedSimpArgs false
namespace Go.Proofs.YtlpdpeghgndmkaaGreat.Pad
open Go
noncomputable def poolE (r : Riddle) (pool : List Aid) : Int := if st r = 0 then (if 20 < pool.length then 2 else if pool.all (ha_ r) then 0 else 70) else st r
noncomputable def allE (r : Riddle) (pool : List Aid) (l : Int) : Int := if poolE r pool = 0 then (if wi l 0 (r.Locks.length - 1) then 0 else 1) else poolE r pool
theorem poolE_zero {r : Riddle} {pool : List Aid} (h : poolE r pool = 0) : Good r ∧ fitW r = true ∧ pool.length ≤ 20 ∧ ∀ a ∈ pool, ha_ r a = true := by
  unfold poolE at h
  by_cases hs : st r = 0
  · obtain ⟨g, hf⟩ := oj_ hs
    rw [if_pos hs] at h
    by_cases hn : 20 < pool.length
    · rw [if_pos hn] at h; simp at h
    · rw [if_neg hn] at h
      cases ha : pool.all (ha_ r)
      · rw [ha] at h; simp at h
      · exact ⟨g, hf, by omega, List.all_eq_true.1 ha⟩
  · rw [if_neg hs] at h; exact absurd h hs
theorem allE_zero {r : Riddle} {pool : List Aid} {l : Int} (h : allE r pool l = 0) : poolE r pool = 0 ∧ 0 ≤ l ∧ l < r.Locks.length := by
  unfold allE at h
  by_cases hp : poolE r pool = 0
  · rw [if_pos hp] at h
    cases hw : wi l 0 (r.Locks.length - 1)
    · rw [hw] at h; simp at h
    · have := ey_.1 hw; exact ⟨hp, by omega, by omega⟩
  · rw [if_neg hp] at h; exact absurd h hp
theorem hints_checkPool_eq (r : Riddle) (pool : List Aid) : fv_ r pool = some (poolE r pool) := by
  unfold fv_ poolE
  rw [fb_, Option.bind_some]
  by_cases hs : st r = 0
  · obtain ⟨g, hf⟩ := oj_ hs
    rw [if_pos hs, if_pos hs]
    simp only [hs]
    rw [if_neg (by simp)]
    by_cases hn : 20 < pool.length
    · rw [if_pos (by simp; omega), if_pos hn]
    · rw [if_neg (by simp; omega), if_neg hn, any_aid (p := fun a => !ha_ r a) (fun a _ => by unfold gd_; rw [oc_ g]; rfl), Option.bind_some, List.all_eq_not_any_not]
      cases pool.any fun a => !ha_ r a <;> rfl
  · rw [if_neg hs, if_neg hs, if_pos (by simpa using hs)]
theorem kr_ (r : Riddle) (pool : List Aid) (l : Int) : en_ r pool l = some (allE r pool l) := by
  unfold en_ allE
  rw [hints_checkPool_eq, Option.bind_some]
  by_cases hp : poolE r pool = 0
  · obtain ⟨g, _⟩ := poolE_zero hp
    rw [hp, if_neg (by simp), if_pos rfl, g.w1, di_, Option.bind_some]
    cases wi l 0 (r.Locks.length - 1) <;> rfl
  · rw [if_neg hp, if_pos (by simpa using hp)]
theorem equal_eq (a b : List Int) : gq_ a b = some (decide (a = b)) := ih_ a b
noncomputable def lu_ (r : Riddle) (a : Aid) : Bool := decide (behE r a = 0 ∧ idxs (jd_ r (told r a)) r.Locks.length = [a.Lock])
noncomputable def left (r : Riddle) (a : Aid) : Int := ((poss (told r a) a.Lock.toNat).length : Int)
theorem helpsR_iff {r : Riddle} {a : Aid} : lu_ r a = true ↔ behE r a = 0 ∧ idxs (jd_ r (told r a)) r.Locks.length = [a.Lock] := by unfold lu_; rw [decide_eq_true_iff]
theorem hints_allows_eq (r : Riddle) (a : Aid) : hf_ r a = some (if lu_ r a then (left r a, true) else (0, false)) := by
  unfold hf_
  rw [jy_, Option.bind_some]
  by_cases h : behE r a = 0
  · obtain ⟨g, hf, hv, hu⟩ := lz_ h
    obtain ⟨l, c, k, h0, h1, _⟩ := jn_ g hv
    have g' := jo_ g hv hu
    rw [if_pos h, if_neg (by simp), Option.bind_some, Option.bind_some, od_ g g' rfl, Option.bind_some, equal_eq, Option.bind_some]
    by_cases e : idxs (jd_ r (told r a)) r.Locks.length = [a.Lock]
    · rw [decide_eq_true e, if_neg (by simp), Option.bind_some, hv_ g', Option.bind_some, fe_ h0 (cntL_get (by show _ < r.Locks.length; omega)), Option.bind_some, helpsR_iff.2 ⟨h, e⟩]
      rfl
    · rw [decide_eq_false e, if_pos (by simp)]
      have : lu_ r a = false := by unfold lu_; exact decide_eq_false (fun q => e q.2)
      rw [this]; rfl
  · have : lu_ r a = false := by unfold lu_; exact decide_eq_false (fun q => h q.1)
    rw [if_neg h, if_pos (by simpa using h), this]; rfl
noncomputable def chP (r : Riddle) (pool : List Aid) (l : Int) (i : Nat) : Bool := match pool[i]? with
  | some a => a.Lock == l && lu_ r a
  | none => false
def ia_ (pool : List Aid) (i : Int) : Aid := pool[i.toNat]?.getD ⟨0, ⟨0, 0, 0, 0, 0, [], false⟩⟩
theorem aidAt_get {pool : List Aid} {i : Nat} {a : Aid} (h : pool[i]? = some a) : ia_ pool (i : Int) = a := by unfold ia_; rw [Int.toNat_natCast, h]; rfl
theorem chP_some {r : Riddle} {pool : List Aid} {l : Int} {i : Nat} (h : chP r pool l i = true) : ∃ a, pool[i]? = some a ∧ a.Lock = l ∧ lu_ r a = true := by
  unfold chP at h
  cases ha : pool[i]? with
  | none => rw [ha] at h; cases h
  | some a =>
    rw [ha] at h
    simp only [Bool.and_eq_true] at h
    exact ⟨a, rfl, by simpa using h.1, h.2⟩
theorem kp_ {r : Riddle} {pool : List Aid} {l : Int} {σ τ : Type} {f : Int × Int → σ → Option (σ ⊕ τ)} (F : Nat → σ)
    (h1 : ∀ (j : Nat) a, pool[j]? = some a → chP r pool l j = true → f ((j : Int), left r a) (F j) = some (.inl (F (j + 1)))) (h2 : ∀ j, chP r pool l j = false → F (j + 1) = F j) :
    dl_ f pool l r (F 0) = some (.inl (F pool.length)) := by
  unfold dl_
  have := forN_ix (σ := σ) (ρ := σ ⊕ τ) (k := pool.length) F (body := fun i1 s4 =>
     (at? pool (i1 : Int)).bind fun x10 =>
     if x10.Lock != l then
     (some (Sum.inl s4))
     else
     ((hf_ r x10).bind fun x11 =>
     if x11.2 then
     ((f ((i1 : Int), x11.1) s4).bind fun x12 =>
     sm x12 (fun s5 =>
     some (Sum.inl s5)) fun q4 =>
     some (Sum.inr (Sum.inr q4)))
     else
     (some (Sum.inl s4)))) (by
    intro j hj
    obtain ⟨a, ha⟩ := ca_ hj
    have hc : chP r pool l j = (a.Lock == l && lu_ r a) := by unfold chP; rw [ha]
    rw [cf_ ha, Option.bind_some]
    by_cases hl : a.Lock = l
    · rw [if_neg (by simp [hl]), hints_allows_eq, Option.bind_some]
      cases hh : lu_ r a
      · rw [h2 j (by rw [hc, hh, Bool.and_false])]; rfl
      · have := h1 j a ha (by rw [hc, hh, hl]; simp)
        simp only [if_true]
        rw [this, Option.bind_some]; rfl
    · rw [if_pos (by simpa using hl), h2 j (by rw [hc]; simp [hl])])
  refine (congrArg (fun o => Option.bind o _) this).trans ?_
  rfl
noncomputable def chL (r : Riddle) (pool : List Aid) (l : Int) : List Int := idxs (chP r pool l) pool.length
theorem hints_Allowed_eq (r : Riddle) (pool : List Aid) (l : Int) : hx_ r pool l = some (if allE r pool l = 0 then (chL r pool l, 0) else ([], allE r pool l)) := by
  unfold hx_
  rw [kr_, Option.bind_some]
  by_cases h : allE r pool l = 0
  · obtain ⟨hp, h0, h1⟩ := allE_zero h
    obtain ⟨g, hf, hn, hv⟩ := poolE_zero hp
    rw [h, if_neg (by simp), if_pos rfl]
    unfold gc_
    rw [Option.bind_some]
    have := kp_ (r := r) (pool := pool) (l := l) (τ := Empty) (f := fun x6 s1 => (push? s1 ([x6.1] : List Int)).bind fun x8 => some (Sum.inl x8)) (fun j => idxs (chP r pool l) j) (by
      intro j a ha hc
      have := idxs_len (chP r pool l) j
      have := lt_of_get? ha
      rw [ju_, hc, if_pos rfl, eu_ (by rw [List.length_singleton]; omega), Option.bind_some]) (by
      intro j hc
      rw [ju_, hc]; rfl)
    refine (congrArg (fun o => Option.bind o _) this).trans ?_
    rfl
  · rw [if_neg h, if_pos (by simpa using h)]
noncomputable def jg_ (r : Riddle) (pool : List Aid) (bt : Int → Int → Bool) (s : Int × Int) (i : Int) : Int × Int := if s.1 < 0 ∨ bt (left r (ia_ pool i)) s.2 = true then (i, left r (ia_ pool i)) else s
noncomputable def pb_ (r : Riddle) (pool : List Aid) (l : Int) (bt : Int → Int → Bool) : Int × Int := (chL r pool l).foldl (jg_ r pool bt) (-1, 0)
theorem hints_pick_eq {r : Riddle} {pool : List Aid} {l : Int} {f : Int → Int → Option Bool} {bt : Int → Int → Bool} (hf : ∀ a b, f a b = some (bt a b)) : ls_ r pool l f = some (pb_ r pool l bt).1 := by
  unfold ls_ gc_
  rw [Option.bind_some]
  have := kp_ (r := r) (pool := pool) (l := l) (τ := Empty) (f := fun x5 (s1 : Int × Int) =>
     if decide (s1.1 < 0) then
     (some (Sum.inl (x5.1, x5.2)))
     else
     ((f x5.2 s1.2).bind fun x7 =>
     if x7 then
     (some (Sum.inl (x5.1, x5.2)))
     else
     (some (Sum.inl (s1.1, s1.2))))) (fun j => (idxs (chP r pool l) j).foldl (jg_ r pool bt) (-1, 0)) (by
    intro j a ha hc
    simp only
    rw [ju_, hc, if_pos rfl, List.foldl_append]
    generalize (idxs (chP r pool l) j).foldl (jg_ r pool bt) (-1, 0) = s
    simp only [List.foldl_cons, List.foldl_nil]
    unfold jg_
    rw [aidAt_get ha]
    by_cases h1 : s.1 < 0
    · rw [if_pos (by simpa using h1), if_pos (.inl h1)]
    · rw [if_neg (by simpa using h1), hf, Option.bind_some]
      cases hb : bt (left r a) s.2
      · rw [if_neg (by simp), if_neg (by simp; omega)]
      · rw [if_pos rfl, if_pos (.inr rfl)]) (by
    intro j hc
    rw [ju_, hc]; rfl)
  refine (congrArg (fun o => Option.bind o _) this).trans ?_
  rfl
theorem foldB_mem {r : Riddle} {pool : List Aid} {bt : Int → Int → Bool} : ∀ (L : List Int) (s : Int × Int), (∀ i ∈ L, 0 ≤ i) → (L.foldl (jg_ r pool bt) s = s ∧ (L = [] ∨ 0 ≤ s.1)) ∨ ((L.foldl (jg_ r pool bt) s).1 ∈ L ∧ (L.foldl (jg_ r pool bt) s).2 = left r (ia_ pool (L.foldl (jg_ r pool bt) s).1))
  | [], s, _ => .inl ⟨rfl, .inl rfl⟩
  | i :: L, s, h => by
    rw [List.foldl_cons]
    have ih := foldB_mem (r := r) (pool := pool) (bt := bt) L (jg_ r pool bt s i) (fun j hj => h j (by simp [hj]))
    have hi := h i (by simp)
    rcases ih with ⟨e, e'⟩ | ⟨e1, e2⟩
    · rw [e]
      unfold jg_ at e' ⊢
      by_cases hc : s.1 < 0 ∨ bt (left r (ia_ pool i)) s.2 = true
      · rw [if_pos hc]; exact .inr ⟨by simp, rfl⟩
      · rw [if_neg hc]
        refine .inl ⟨rfl, .inr ?_⟩
        have : ¬ s.1 < 0 := fun q => hc (.inl q)
        omega
    · exact .inr ⟨by simp [e1], e2⟩
theorem pa_ (r : Riddle) (pool : List Aid) (l : Int) (bt : Int → Int → Bool) : ((pb_ r pool l bt).1 = -1 ∧ chL r pool l = []) ∨ ((pb_ r pool l bt).1 ∈ chL r pool l ∧ (pb_ r pool l bt).2 = left r (ia_ pool (pb_ r pool l bt).1)) := by
  unfold pb_
  rcases foldB_mem (r := r) (pool := pool) (bt := bt) (chL r pool l) (-1, 0) (fun i hi => (idxs_mem.1 hi).1) with ⟨e, e'⟩ | h
  · rcases e' with e' | e'
    · rw [e']; exact .inl ⟨rfl, rfl⟩
    · simp at e'
  · exact .inr h
theorem chL_mem {r : Riddle} {pool : List Aid} {l : Int} {i : Int} (h : i ∈ chL r pool l) : 0 ≤ i ∧ i < pool.length ∧ pool[i.toNat]? = some (ia_ pool i) ∧ (ia_ pool i).Lock = l ∧ lu_ r (ia_ pool i) = true := by
  obtain ⟨h0, h1, h2⟩ := idxs_mem.1 h
  obtain ⟨a, ha, hl, hh⟩ := chP_some h2
  have : ia_ pool i = a := by unfold ia_; rw [ha]; rfl
  rw [this]
  exact ⟨h0, h1, ha, hl, hh⟩
def more' (a b : Int) : Bool := decide (b < a)
def less' (a b : Int) : Bool := decide (a < b)
structure Fine (r : Riddle) (pool : List Aid) : Prop where
  g : Good r
  f : fitW r = true
  n : pool.length ≤ 20
  v : ∀ a ∈ pool, ha_ r a = true
theorem Fine.told {r : Riddle} {pool : List Aid} (h : Fine r pool) {a : Aid} (hb : behE r a = 0) : Fine (told r a) pool := by
  obtain ⟨g, hf, hv, hu⟩ := lz_ hb
  exact ⟨jo_ g hv hu, told_fit g hv hu hf, h.n, fun b hb => h.v b hb⟩
noncomputable def room (r : Riddle) (l : Int) : Nat := 20 - (r.Known[l.toNat]?.getD []).length
end Go.Proofs.YtlpdpeghgndmkaaGreat.Pad
