/- Ladders: each rung helps, and behind the last none is left: the law holds. -/
import Derived.Test.YtlpdpeghgndmkaaLawHL
import Derived.Test.YtlpdpeghgndmkaaLawHM
set_option linter.unusedVariables false
set_option linter.unusedSimpArgs false
namespace Go.Proofs.Ytlpdpeghgndmkaa.Pad
open Go
def jz_ (pool : List Aid) (r : Riddle) (L : List Int) : Riddle := L.foldl (fun q i => told q (gt_ pool i)) r
noncomputable def lad (pool : List Aid) (l : Int) : Nat → Riddle → List Int
  | 0, _ => []
  | n + 1, r => if (mp_ r pool l nh_).1 < 0 then [] else (mp_ r pool l nh_).1 :: lad pool l n (told r (gt_ pool (mp_ r pool l nh_).1))
theorem ladF_lad (pool : List Aid) (l : Int) : ∀ (n : Nat) (r : Riddle) (acc : List Int), ladF pool l n r acc = acc ++ lad pool l n r
  | 0, r, acc => by simp [ladF, lad]
  | n + 1, r, acc => by
    unfold ladF lad
    by_cases h : (mp_ r pool l nh_).1 < 0
    · rw [if_pos h, if_pos h, List.append_nil]
    · rw [if_neg h, if_neg h, ladF_lad pool l n, List.append_assoc]; rfl
def Rungs (pool : List Aid) (l : Int) : Riddle → List Int → Prop
  | _, [] => True
  | r, x :: xs => x ∈ chL r pool l ∧ Rungs pool l (told r (gt_ pool x)) xs
theorem lad_rungs (pool : List Aid) (l : Int) : ∀ (n : Nat) (r : Riddle), Rungs pool l r (lad pool l n r)
  | 0, r => trivial
  | n + 1, r => by
    unfold lad
    rcases pn_ r pool l nh_ with ⟨e, _⟩ | ⟨e, _⟩
    · rw [if_pos (by rw [e]; omega)]; trivial
    · have := (nu_ e).1
      rw [if_neg (by omega)]
      exact ⟨e, lad_rungs pool l n _⟩
theorem lad_end (pool : List Aid) (l : Int) : ∀ (n : Nat) (r : Riddle), room r l < n → chL (jz_ pool r (lad pool l n r)) pool l = [] ∧ (lad pool l n r).length ≤ room r l
  | 0, r, h => by omega
  | n + 1, r, h => by
    unfold lad
    rcases pn_ r pool l nh_ with ⟨e, e2⟩ | ⟨e, _⟩
    · rw [if_pos (by rw [e]; omega)]; exact ⟨e2, Nat.zero_le _⟩
    · obtain ⟨h0, h1, h2, h3, h4⟩ := nu_ e
      have hrm := room_told h3 (jv_.1 h4).1
      rw [if_neg (by omega)]
      obtain ⟨p, q⟩ := lad_end pool l n (told r (gt_ pool (mp_ r pool l nh_).1)) (by omega)
      exact ⟨p, by rw [List.length_cons]; omega⟩
theorem rungs_at {pool : List Aid} {l : Int} : ∀ {L : List Int} {r : Riddle} {i : Nat} {x : Int}, Rungs pool l r L → L[i]? = some x → x ∈ chL (jz_ pool r (L.take i)) pool l
  | [], _, _, _, _, h => by simp at h
  | y :: L, r, 0, x, hr, h => by simp at h; subst h; exact hr.1
  | y :: L, r, i + 1, x, hr, h => rungs_at (L := L) hr.2 (by simpa using h)
theorem ow_ {pool : List Aid} {l : Int} : ∀ {L : List Int} {r : Riddle} (i : Nat), Rungs pool l r L → hidesB pool r (L.take i) = true
  | [], _, i, _ => by simp [hidesB]
  | y :: L, r, 0, _ => rfl
  | y :: L, r, i + 1, hr => by
    rw [List.take_succ_cons, hidesB, (nu_ hr.1).2.2.2.2, ow_ i hr.2]; rfl
theorem rungs_fine {pool : List Aid} {l : Int} : ∀ {L : List Int} {r : Riddle} (i : Nat), Rungs pool l r L → Fine r pool → Fine (jz_ pool r (L.take i)) pool
  | [], _, i, _, h => by simpa [jz_] using h
  | y :: L, r, 0, _, h => h
  | y :: L, r, i + 1, hr, h => rungs_fine (L := L) i hr.2 (h.told (jv_.1 (nu_ hr.1).2.2.2.2).1)
theorem toldS_step {pool : List Aid} {r : Riddle} {L : List Int} {i : Nat} {x : Int} (h : L[i]? = some x) : jz_ pool r (L.take (i + 1)) = told (jz_ pool r (L.take i)) (gt_ pool x) := by
  unfold jz_
  rw [foldlS h]
theorem oq_ (pool : List Aid) : ∀ (L : List Int) (r : Riddle), (jz_ pool r L).Locks = r.Locks
  | [], r => rfl
  | x :: L, r => oq_ pool L (told r (gt_ pool x))
theorem fine_pool {r : Riddle} {pool : List Aid} (h : Fine r pool) : poolE r pool = 0 := by
  unfold poolE
  rw [if_pos (st_good h.g h.f), if_neg (by have := h.n; omega), List.all_eq_true.2 h.v]; rfl
theorem pe_ (r : Riddle) (pool : List Aid) (l : Int) : gx_ r pool l = some true := by
  unfold gx_
  obtain ⟨b, hb⟩ := law07_Large_tot r
  rw [hb, Option.bind_some, law07_works_eq]
  cases b
  rotate_left
  · rfl
  rw [if_neg (by simp)]
  by_cases h6 : 6 < pool.length
  · rw [if_pos (by simp; omega)]; rfl
  rw [if_neg (by simp; omega), hints_Ladder_eq, Option.bind_some]
  by_cases h : allE r pool l = 0
  rotate_left
  · rw [if_neg h, if_pos (by simpa using h)]; rfl
  obtain ⟨hp, h0, h1⟩ := allE_zero h
  obtain ⟨g, hf, hn, hv⟩ := lx_ hp
  have hF : Fine r pool := ⟨g, hf, hn, hv⟩
  rw [if_pos h, if_neg (by simp), ladF_lad, List.nil_append]
  have hru := lad_rungs pool l 21 r
  obtain ⟨hend, hlen⟩ := lad_end pool l 21 r (by unfold room; omega)
  have hl20 : (lad pool l 21 r).length ≤ 20 := by unfold room at hlen; omega
  generalize lad pool l 21 r = L at hru hend hl20
  have hw := jo_ (σ := (List CodeLock) × (List (List Int)) × (List (List Clue)) × (List Tie) × Int) (ρ := ((List CodeLock) × (List (List Int)) × (List (List Clue)) × (List Tie) × Int) ⊕ Bool) (body := fun s2 =>
     if decide (s2.2.2.2.2 ≤ (L.length : Int)) then
     ((sub? L 0 (mh_ s2.2.2.2.2 (L.length : Int))).bind fun x139 =>
     (ga_ r pool x139).bind fun x140 =>
     if x140.2 != 0 then
     (some (Sum.inr (Sum.inr false)))
     else
     (if !x140.1 then
     (some (Sum.inr (Sum.inr false)))
     else
     (if s2.2.2.2.2 == (L.length : Int) then
     (some (Sum.inr (Sum.inl (s2.1, s2.2.1, s2.2.2.1, s2.2.2.2.1, s2.2.2.2.2))))
     else
     ((at? L s2.2.2.2.2).bind fun x141 =>
     if decide (x141 < 0) then
     (some (Sum.inr (Sum.inr false)))
     else
     (if decide ((pool.length : Int) ≤ x141) then
     (some (Sum.inr (Sum.inr false)))
     else
     ((at? pool x141).bind fun x143 =>
     if x143.Lock != l then
     (some (Sum.inr (Sum.inr false)))
     else
     ((fj_ (⟨s2.1, s2.2.1, s2.2.2.1, s2.2.2.2.1⟩ : Riddle) l).bind fun x144 =>
     (at? pool x141).bind fun x145 =>
     (hk_ (⟨s2.1, s2.2.1, s2.2.2.1, s2.2.2.2.1⟩ : Riddle) x145).bind fun x146 =>
     (at? pool x141).bind fun x147 =>
     (ju_ (⟨s2.1, s2.2.1, s2.2.2.1, s2.2.2.2.1⟩ : Riddle) x147).bind fun x148 =>
     if x144.2 != 0 then
     (some (Sum.inr (Sum.inr false)))
     else
     (if x146.2 != 0 then
     (some (Sum.inr (Sum.inr false)))
     else
     (if x148.2 != 0 then
     (some (Sum.inr (Sum.inr false)))
     else
     (if decide ((x144.1.length : Int) ≤ x146.1) then
     (some (Sum.inr (Sum.inr false)))
     else
     (if decide (x146.1 < 1) then
     (some (Sum.inr (Sum.inr false)))
     else
     (some (Sum.inl (x148.1.Locks, x148.1.Codes, x148.1.Known, x148.1.Ties, w64 (s2.2.2.2.2 + 1)))))))))))))))
     else
     (some (Sum.inr (Sum.inl (s2.1, s2.2.1, s2.2.2.1, s2.2.2.2.1, s2.2.2.2.2)))))
    (fun j s => s = ((jz_ pool r (L.take j)).Locks, (jz_ pool r (L.take j)).Codes, (jz_ pool r (L.take j)).Known, (jz_ pool r (L.take j)).Ties, (j : Int)))
    (fun o => o = .inl ((jz_ pool r L).Locks, (jz_ pool r L).Codes, (jz_ pool r L).Known, (jz_ pool r L).Ties, (L.length : Int))) L.length 0 (r.Locks, r.Codes, r.Known, r.Ties, 0) rfl (by
    rintro j s _ hj rfl
    have hj' : j < L.length := by omega
    have hF' := rungs_fine j hru hF
    have hid := ow_ j hru
    obtain ⟨x, hx⟩ := bx_ hj'
    have hxm := rungs_at hru hx
    obtain ⟨x0, x1, x2, x3, x4⟩ := nu_ hxm
    obtain ⟨hbe, hfw⟩ := jv_.1 x4
    have hlk := oq_ pool (L.take j) r
    have hst := toldS_step (pool := pool) (r := r) hx
    generalize hq : jz_ pool r (L.take j) = q at *
    obtain ⟨gq, fq, vq, uq⟩ := ii_ hbe
    refine .inl ⟨_, ?_, rfl⟩
    have hmin : mh_ (j : Int) (L.length : Int) = (j : Int) := by unfold mh_; split <;> omega
    have hsub : sub? L 0 (j : Int) = some (L.take j) := by
      unfold sub?; rw [if_pos ⟨by omega, by omega, by omega⟩]; simp
    have hh : ga_ r pool (L.take j) = some (true, 0) := by
      have he : hidE r pool (L.take j) = 0 := by
        unfold hidE
        rw [if_pos hp, if_neg (by rw [List.length_take]; omega), List.all_eq_true.2 (fun y hy => ?_)]
        · rfl
        · obtain ⟨k, hk⟩ := List.getElem?_of_mem hy
          rw [List.getElem?_take] at hk
          by_cases hkj : k < j
          · rw [if_pos hkj] at hk
            have := nu_ (rungs_at hru hk)
            exact ek_.2 ⟨this.1, by omega⟩
          · rw [if_neg hkj] at hk; cases hk
      rw [on_, if_pos he, hid]
    have hpe : posE q l = 0 := by
      unfold posE
      rw [if_pos (st_good gq fq), hlk, ek_.2 (by omega)]; rfl
    have hfew : (poss (told q (gt_ pool x)) l.toNat).length < (poss q l.toNat).length := by
      have : (gt_ pool x).Lock ∈ idxs (kk_ q (told q (gt_ pool x))) q.Locks.length := by rw [hfw]; simp
      have h2 := (idxs_mem.1 this).2.2
      unfold kk_ at h2
      rw [x3] at h2
      simpa using h2
    have hpos : 1 ≤ (poss (told q (gt_ pool x)) l.toNat).length := by
      have g2 := jy_ gq vq uq
      obtain ⟨c, hc⟩ := bx_ (l := (told q (gt_ pool x)).Codes) (i := l.toNat) (by rw [g2.hc]; show _ < q.Locks.length; rw [hlk]; omega)
      exact List.length_pos_of_mem (code_poss g2 hc)
    simp only
    rw [if_pos (by simp; omega), hmin, hsub, Option.bind_some, hh, Option.bind_some, if_neg (by simp), if_neg (by simp), if_neg (by simp; omega), cf_ hx, Option.bind_some, if_neg (by simp; omega), if_neg (by simp; omega), fr_ x0 x2, Option.bind_some, if_neg (by simp [x3])]
    rw [show (⟨q.Locks, q.Codes, q.Known, q.Ties⟩ : Riddle) = q from rfl, hints_Possible_eq, Option.bind_some, Option.bind_some, hints_Leaves_eq, Option.bind_some, Option.bind_some, hints_Tell_eq, Option.bind_some, if_pos hpe, if_pos hbe, if_pos hbe, hpe, if_neg (by simp), if_neg (by simp), if_neg (by simp), x3, if_neg (by simp; omega), if_neg (by simp; omega), ea_ (by omega) (by omega), hst]
    rfl) (by
    rintro s rfl
    rw [Nat.zero_add, List.take_length]
    have hid := ow_ L.length hru
    rw [List.take_length] at hid
    refine ⟨_, ?_, rfl⟩
    have hmin : mh_ (L.length : Int) (L.length : Int) = (L.length : Int) := by unfold mh_; split <;> omega
    have hsub : sub? L 0 (L.length : Int) = some L := by
      unfold sub?; rw [if_pos ⟨by omega, by omega, by omega⟩]; simp
    have hh : ga_ r pool L = some (true, 0) := by
      have he : hidE r pool L = 0 := by
        unfold hidE
        rw [if_pos hp, if_neg (by omega), List.all_eq_true.2 (fun y hy => ?_)]
        · rfl
        · obtain ⟨k, hk⟩ := List.getElem?_of_mem hy
          have := nu_ (rungs_at hru hk)
          exact ek_.2 ⟨this.1, by omega⟩
      rw [on_, if_pos he, hid]
    simp only
    rw [if_pos (by simp), hmin, hsub, Option.bind_some, hh, Option.bind_some, if_neg (by simp), if_neg (by simp), if_pos (by simp)])
  obtain ⟨o, o1, rfl⟩ := hw
  refine (congrArg (fun o => Option.bind o _) o1).trans ?_
  have hF2 := rungs_fine L.length hru hF
  rw [List.take_length] at hF2
  have hall : allE (jz_ pool r L) pool l = 0 := by
    unfold allE
    rw [if_pos (fine_pool hF2), oq_, ek_.2 (by omega)]; rfl
  rw [Option.bind_some]
  simp only [onL]
  rw [show (⟨(jz_ pool r L).Locks, (jz_ pool r L).Codes, (jz_ pool r L).Known, (jz_ pool r L).Ties⟩ : Riddle) = jz_ pool r L from rfl, hints_Allowed_eq, if_pos hall, Option.bind_some, hend]
  rfl
end Go.Proofs.Ytlpdpeghgndmkaa.Pad
