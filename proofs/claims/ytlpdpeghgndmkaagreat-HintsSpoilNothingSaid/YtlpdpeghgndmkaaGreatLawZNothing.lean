/- Ladders spoil nothing: the law holds. -/
import Derived.Test.YtlpdpeghgndmkaaGreatLawZGentle
set_option linter.unusedVariables false
set_option linter.unusedSimpArgs false
namespace Go.Proofs.YtlpdpeghgndmkaaGreat.Pad
open Go
theorem told_world {r : Riddle} (g : Good r) {a : Aid} (hv : gs_ r a = true) (g' : Good (told r a)) {w : List (List Int)} (hw : w ∈ Wc (told r a)) : w ∈ Wc r := by
  unfold Wc at hw ⊢
  rw [List.mem_filter] at hw ⊢
  obtain ⟨hp, ht⟩ := hw
  obtain ⟨p1, p2⟩ := hz_.1 hp
  have n1 := gz_ g; have n2 := gz_ g'
  rw [show (told r a).Locks = r.Locks from rfl] at n2
  refine ⟨hz_.2 ⟨by omega, fun i x c hx hc => ?_⟩, ht⟩
  obtain ⟨b, hb⟩ := bw_ (l := ez_ (told r a)) (i := i) (by have := lt_of_get? hx; omega)
  have hm := p2 i b c hb hc
  rw [told_rdgs g hv i, hx] at hb
  by_cases e : i = a.Lock.toNat
  · rw [if_pos e] at hb
    obtain rfl := Option.some.inj hb
    exact (List.mem_filter.1 hm).1
  · rw [if_neg e] at hb
    obtain rfl := Option.some.inj hb
    exact hm
theorem helps_same {r : Riddle} {a : Aid} (h : ma_ r a = true) {i : Nat} (hi : i < r.Locks.length) (hne : (i : Int) ≠ a.Lock) : poss (told r a) i = poss r i := by
  obtain ⟨hb, hf⟩ := nx_.1 h
  obtain ⟨g, _, hv, hu⟩ := ji_ hb
  obtain ⟨l, c, k, h0, h1, _⟩ := jy_ g hv
  have g' := lp_ g hv hu
  have hn := gz_ g
  obtain ⟨z, hz⟩ := bw_ (l := ez_ r) (i := i) (by omega)
  have hz' : (ez_ (told r a))[i]? = some z := by rw [told_rdgs g hv i, if_neg (by omega), hz]
  have hlen : (poss r i).length ≤ (poss (told r a) i).length := by
    apply Classical.byContradiction
    intro hh
    have : (i : Int) ∈ idxs (kz_ r (told r a)) r.Locks.length := by
      rw [idxs_mem, Int.toNat_natCast]
      exact ⟨by omega, by omega, decide_eq_true (by omega)⟩
    rw [hf, List.mem_singleton] at this
    exact hne this
  rw [poss_at hz, poss_at hz'] at hlen ⊢
  have himp : ∀ c, mk_ (told r a) i c = true → mk_ r i c = true := by
    intro c hc
    unfold mk_ at hc ⊢
    rw [List.any_eq_true] at hc ⊢
    obtain ⟨w, hw, e⟩ := hc
    exact ⟨w, told_world g hv g' hw, e⟩
  have hsub : (z.filter (mk_ (told r a) i)).Sublist (z.filter (mk_ r i)) := by
    have : z.filter (mk_ (told r a) i) = (z.filter (mk_ r i)).filter (mk_ (told r a) i) := by
      rw [List.filter_filter]
      refine List.filter_congr fun c _ => ?_
      cases hc : mk_ (told r a) i c
      · rfl
      · rw [himp c hc]; rfl
    rw [this]
    exact List.filter_sublist
  exact hsub.eq_of_length_le hlen
theorem same_eq {A B : List (List (List Int))} {l : Int} (hl : B.length = A.length) (h : ∀ (i : Nat) x y, (i : Int) ≠ l → A[i]? = some x → B[i]? = some y → x = y) : gi_ A B l = some true := by
  unfold gi_
  have := nz_ (l := A) (p := fun _ => true) (r := false) (body := fun i1 s1 =>
     if (i1 : Int) != l then
     ((at? A (i1 : Int)).bind fun x10 =>
     (at? B (i1 : Int)).bind fun x11 =>
     (et_ x10 x11).bind fun x12 =>
     if !x12 then
     (some (Sum.inr false))
     else
     (some (Sum.inl ())))
     else
     (some (Sum.inl ()))) (by
    intro j x hx
    by_cases e : (j : Int) = l
    · rw [if_neg (by simp [e])]; rfl
    · obtain ⟨y, hy⟩ := bw_ (l := B) (i := j) (by have := lt_of_get? hx; omega)
      obtain rfl := h j x y e hx hy
      rw [if_pos (by simpa using e), ce_ hx, Option.bind_some, ce_ hy, Option.bind_some, sameLists_refl]; rfl)
  refine (congrArg (fun o => Option.bind o _) this).trans ?_
  rw [show (A.all fun _ => true) = true by simp]
  rfl
theorem fine_pool {r : Riddle} {pool : List Aid} (h : Fine r pool) : poolE r pool = 0 := by
  unfold poolE
  rw [if_pos (st_good h.g h.f), if_neg (by have := h.n; omega), List.all_eq_true.2 h.v]; rfl
theorem ku_ (r : Riddle) (pool : List Aid) (l : Int) : dy_ r pool l = some true := by
  unfold dy_
  obtain ⟨b, hb⟩ := law07_Large_tot r
  rw [hb, Option.bind_some, law07_works_eq]
  cases b
  rotate_left
  · rfl
  rw [if_neg (by simp)]
  by_cases h6 : 6 < pool.length
  · rw [if_pos (by simp; omega)]; rfl
  rw [if_neg (by simp; omega), hints_Ladder_eq]
  by_cases hs : st r = 0
  rotate_left
  · obtain ⟨b2, h2⟩ := law07_all_tot r hs
    have ha : ¬ allE r pool l = 0 := fun q => hs (by
      have := nu_ (allE_zero q).1
      exact st_good this.1 this.2.1)
    rw [h2, Option.bind_some, if_neg ha, Option.bind_some]
    cases b2
    · rfl
    · rw [if_neg (by simp), if_pos (by simpa using ha)]; rfl
  rw [law07_all_eq hs, Option.bind_some, Option.bind_some, if_neg (by simp)]
  by_cases h : allE r pool l = 0
  rotate_left
  · rw [if_neg h, if_pos (by simpa using h)]; rfl
  obtain ⟨hp, h0, h1⟩ := allE_zero h
  obtain ⟨g, hf, hn, hv⟩ := nu_ hp
  have hF : Fine r pool := ⟨g, hf, hn, hv⟩
  rw [if_pos h, if_neg (by simp), cnt?_le (by omega), Option.bind_some]
  have key : ∀ (i1 : Nat), ∃ s0, ed_ (σ := ((List CodeLock) × (List (List Int)) × (List (List Clue)) × (List Tie) × Int)) (ρ := ((List CodeLock) × (List (List Int)) × (List (List Clue)) × (List Tie) × Int) ⊕ (Unit ⊕ Bool)) (fun s5 =>
     ((if (i1 : Int) == 0 then
     ((en_ (⟨s5.1, s5.2.1, s5.2.2.1, s5.2.2.2.1⟩ : Riddle) pool l).bind fun x232 =>
     some (x232.1, x232.2))
     else
     ((em_ (⟨s5.1, s5.2.1, s5.2.2.1, s5.2.2.2.1⟩ : Riddle) pool l).bind fun x233 =>
     some (x233.1, x233.2))) : Option (Int × Int)).bind fun v28 =>
     if v28.2 == 3 then
     (some (Sum.inr (Sum.inl (s5.1, s5.2.1, s5.2.2.1, s5.2.2.2.1, s5.2.2.2.2))))
     else
     (if v28.2 != 0 then
     (some (Sum.inr (Sum.inr (Sum.inr false))))
     else
     (if decide (v28.1 < 0) then
     (some (Sum.inr (Sum.inr (Sum.inr false))))
     else
     (if decide ((pool.length : Int) ≤ v28.1) then
     (some (Sum.inr (Sum.inr (Sum.inr false))))
     else
     (if decide (300 < s5.2.2.2.2) then
     (some (Sum.inr (Sum.inr (Sum.inr false))))
     else
     ((at? pool v28.1).bind fun x234 =>
     (hq_ (⟨s5.1, s5.2.1, s5.2.2.1, s5.2.2.2.1⟩ : Riddle) x234).bind fun x235 =>
     (fw_ x235.1).bind fun x236 =>
     if x235.2 != 0 then
     (some (Sum.inr (Sum.inr (Sum.inr false))))
     else
     (if !x236.2 then
     (some (Sum.inr (Sum.inr (Sum.inr false))))
     else
     (if (x236.1.length : Int) != ((jm_ r).length : Int) then
     (some (Sum.inr (Sum.inr (Sum.inr false))))
     else
     ((gi_ (jm_ r) x236.1 l).bind fun x237 =>
     if !x237 then
     (some (Sum.inr (Sum.inr (Sum.inr false))))
     else
     (some (Sum.inl (x235.1.Locks, x235.1.Codes, x235.1.Known, x235.1.Ties, w64 (s5.2.2.2.2 + 1))))))))))))) (r.Locks, r.Codes, r.Known, r.Ties, 0) = some (.inl s0) := by
    intro i1
    obtain ⟨bt, hbt⟩ : ∃ bt, ∀ q : Riddle, ((if (i1 : Int) == 0 then ((en_ q pool l).bind fun x232 => some (x232.1, x232.2)) else ((em_ q pool l).bind fun x233 => some (x233.1, x233.2))) : Option (Int × Int)) = some (choose' q pool l bt) := by
      by_cases e : ((i1 : Int) == 0) = true
      · exact ⟨more', fun q => by rw [if_pos e, hints_Gentle_eq]; rfl⟩
      · exact ⟨less', fun q => by rw [if_neg e, hints_Strong_eq]; rfl⟩
    have hw := js_ (σ := ((List CodeLock) × (List (List Int)) × (List (List Clue)) × (List Tie) × Int)) (ρ := ((List CodeLock) × (List (List Int)) × (List (List Clue)) × (List Tie) × Int) ⊕ (Unit ⊕ Bool)) (body := fun s5 =>
     ((if (i1 : Int) == 0 then
     ((en_ (⟨s5.1, s5.2.1, s5.2.2.1, s5.2.2.2.1⟩ : Riddle) pool l).bind fun x232 =>
     some (x232.1, x232.2))
     else
     ((em_ (⟨s5.1, s5.2.1, s5.2.2.1, s5.2.2.2.1⟩ : Riddle) pool l).bind fun x233 =>
     some (x233.1, x233.2))) : Option (Int × Int)).bind fun v28 =>
     if v28.2 == 3 then
     (some (Sum.inr (Sum.inl (s5.1, s5.2.1, s5.2.2.1, s5.2.2.2.1, s5.2.2.2.2))))
     else
     (if v28.2 != 0 then
     (some (Sum.inr (Sum.inr (Sum.inr false))))
     else
     (if decide (v28.1 < 0) then
     (some (Sum.inr (Sum.inr (Sum.inr false))))
     else
     (if decide ((pool.length : Int) ≤ v28.1) then
     (some (Sum.inr (Sum.inr (Sum.inr false))))
     else
     (if decide (300 < s5.2.2.2.2) then
     (some (Sum.inr (Sum.inr (Sum.inr false))))
     else
     ((at? pool v28.1).bind fun x234 =>
     (hq_ (⟨s5.1, s5.2.1, s5.2.2.1, s5.2.2.2.1⟩ : Riddle) x234).bind fun x235 =>
     (fw_ x235.1).bind fun x236 =>
     if x235.2 != 0 then
     (some (Sum.inr (Sum.inr (Sum.inr false))))
     else
     (if !x236.2 then
     (some (Sum.inr (Sum.inr (Sum.inr false))))
     else
     (if (x236.1.length : Int) != ((jm_ r).length : Int) then
     (some (Sum.inr (Sum.inr (Sum.inr false))))
     else
     ((gi_ (jm_ r) x236.1 l).bind fun x237 =>
     if !x237 then
     (some (Sum.inr (Sum.inr (Sum.inr false))))
     else
     (some (Sum.inl (x235.1.Locks, x235.1.Codes, x235.1.Known, x235.1.Ties, w64 (s5.2.2.2.2 + 1)))))))))))))
      (fun j s => ∃ q : Riddle, s = (q.Locks, q.Codes, q.Known, q.Ties, (j : Int)) ∧ Fine q pool ∧ q.Locks = r.Locks ∧ (∀ i : Nat, i < r.Locks.length → (i : Int) ≠ l → poss q i = poss r i) ∧ room q l + j ≤ 20) (fun o => ∃ s, o = .inl s) 21 0 (r.Locks, r.Codes, r.Known, r.Ties, 0) ⟨r, rfl, hF, rfl, fun _ _ _ => rfl, by unfold room; omega⟩ (by
      rintro j s _ hj ⟨q, rfl, fq, hlk, hsame, hrm⟩
      have hall : allE q pool l = 0 := by
        unfold allE
        rw [if_pos (fine_pool fq), hlk, ey_.2 (by omega)]; rfl
      simp only
      rw [show (⟨q.Locks, q.Codes, q.Known, q.Ties⟩ : Riddle) = q from rfl, hbt q, Option.bind_some]
      unfold choose'
      rw [if_pos hall]
      rcases bestB_cases q pool l bt with ⟨e, _⟩ | ⟨e, _⟩
      · rw [if_pos (show (mf_ q pool l bt).1 < 0 by rw [e]; omega)]
        exact .inr ⟨_, rfl, _, rfl⟩
      · obtain ⟨x0, x1, x2, x3, x4⟩ := chL_mem e
        have hbe := (nx_.1 x4).1
        obtain ⟨gq, fwq, vq, uq⟩ := ji_ hbe
        have hst := told_st hbe
        have hrt := room_told x3 hbe
        rw [if_neg (show ¬ (mf_ q pool l bt).1 < 0 by omega)]
        generalize (mf_ q pool l bt).1 = x at *
        have hsm : ∀ i : Nat, i < r.Locks.length → (i : Int) ≠ l → poss (told q (jj_ pool x)) i = poss r i := fun i hi hne => by
          rw [helps_same x4 (by rw [hlk]; exact hi) (by rw [x3]; exact hne), hsame i hi hne]
        have hse : gi_ (jm_ r) (jm_ (told q (jj_ pool x))) l = some true := by
          refine same_eq (by rw [ia_, ia_]; show q.Locks.length = _; rw [hlk]) (fun i u v hne hu hv => ?_)
          have hi : i < r.Locks.length := by have := lt_of_get? hu; rwa [ia_] at this
          rw [lv_ hi] at hu
          rw [lv_ (show i < (told q (jj_ pool x)).Locks.length by show i < q.Locks.length; rw [hlk]; exact hi)] at hv
          rw [← Option.some.inj hu, ← Option.some.inj hv, hsm i hi hne]
        refine .inl ⟨((told q (jj_ pool x)).Locks, (told q (jj_ pool x)).Codes, (told q (jj_ pool x)).Known, (told q (jj_ pool x)).Ties, ((j + 1 : Nat) : Int)), ?_, told q (jj_ pool x), rfl, fq.told hbe, hlk, hsm, by omega⟩
        have hln : (jm_ (told q (jj_ pool x))).length = (jm_ r).length := by
          rw [ia_, ia_]; show q.Locks.length = _; rw [hlk]
        rw [if_neg (by simp), if_neg (by simp), if_neg (by simp; omega), if_neg (by simp; omega), if_neg (by simp; omega), gn_ x0 x2, Option.bind_some, hints_Tell_eq, if_pos hbe, Option.bind_some, law07_all_eq hst, Option.bind_some, if_neg (by simp), if_neg (by simp), if_neg (by simp [hln]), hse, Option.bind_some, if_neg (by simp), ee_ (by omega) (by omega)]
        rfl) (by
      rintro s ⟨q, rfl, _, _, _, hrm⟩
      omega)
    obtain ⟨o, o1, s0, rfl⟩ := hw
    exact ⟨s0, o1⟩
  have hfor := forN_ix (σ := Unit) (ρ := Bool) (k := ((2 : Int)).toNat) (fun _ => ()) (body := fun i1 s4 =>
     (ed_ (σ := ((List CodeLock) × (List (List Int)) × (List (List Clue)) × (List Tie) × Int)) (ρ := ((List CodeLock) × (List (List Int)) × (List (List Clue)) × (List Tie) × Int) ⊕ (Unit ⊕ Bool)) (fun s5 =>
     ((if (i1 : Int) == 0 then
     ((en_ (⟨s5.1, s5.2.1, s5.2.2.1, s5.2.2.2.1⟩ : Riddle) pool l).bind fun x232 =>
     some (x232.1, x232.2))
     else
     ((em_ (⟨s5.1, s5.2.1, s5.2.2.1, s5.2.2.2.1⟩ : Riddle) pool l).bind fun x233 =>
     some (x233.1, x233.2))) : Option (Int × Int)).bind fun v28 =>
     if v28.2 == 3 then
     (some (Sum.inr (Sum.inl (s5.1, s5.2.1, s5.2.2.1, s5.2.2.2.1, s5.2.2.2.2))))
     else
     (if v28.2 != 0 then
     (some (Sum.inr (Sum.inr (Sum.inr false))))
     else
     (if decide (v28.1 < 0) then
     (some (Sum.inr (Sum.inr (Sum.inr false))))
     else
     (if decide ((pool.length : Int) ≤ v28.1) then
     (some (Sum.inr (Sum.inr (Sum.inr false))))
     else
     (if decide (300 < s5.2.2.2.2) then
     (some (Sum.inr (Sum.inr (Sum.inr false))))
     else
     ((at? pool v28.1).bind fun x234 =>
     (hq_ (⟨s5.1, s5.2.1, s5.2.2.1, s5.2.2.2.1⟩ : Riddle) x234).bind fun x235 =>
     (fw_ x235.1).bind fun x236 =>
     if x235.2 != 0 then
     (some (Sum.inr (Sum.inr (Sum.inr false))))
     else
     (if !x236.2 then
     (some (Sum.inr (Sum.inr (Sum.inr false))))
     else
     (if (x236.1.length : Int) != ((jm_ r).length : Int) then
     (some (Sum.inr (Sum.inr (Sum.inr false))))
     else
     ((gi_ (jm_ r) x236.1 l).bind fun x237 =>
     if !x237 then
     (some (Sum.inr (Sum.inr (Sum.inr false))))
     else
     (some (Sum.inl (x235.1.Locks, x235.1.Codes, x235.1.Known, x235.1.Ties, w64 (s5.2.2.2.2 + 1))))))))))))) (r.Locks, r.Codes, r.Known, r.Ties, 0)).bind fun o10 => onL o10 fun out5 =>
     some (Sum.inl ())) (by
    intro j _
    obtain ⟨s0, hs0⟩ := key j
    rw [hs0]
    rfl)
  refine (congrArg (fun o => Option.bind o _) hfor).trans ?_
  rfl
end Go.Proofs.YtlpdpeghgndmkaaGreat.Pad
