/- Without ties nothing is spoiled: the law holds. -/
import Derived.Test.YtlpdpeghgndmkaaLawHM
set_option linter.unusedVariables false
set_option linter.unusedSimpArgs false
namespace Go.Proofs.Ytlpdpeghgndmkaa.Pad
open Go
theorem poss_lens {r : Riddle} (g : Good r) (ht : r.Ties = []) : (kg_ r).map List.length = lens r := by
  have hn := fr_ g
  apply List.ext_getElem?
  intro i
  unfold lens
  rw [List.getElem?_map, List.getElem?_map]
  by_cases hi : i < r.Locks.length
  · obtain ⟨a, ha⟩ := bx_ (l := ej_ r) (i := i) (by omega)
    rw [lk_ hi, ha, poss_free g ht ha]
  · rw [List.getElem?_eq_none (by rw [kf_]; omega), List.getElem?_eq_none (by omega)]
theorem worlds_free {r : Riddle} (ht : r.Ties = []) : (Wc r).length = (lens r).foldl (· * ·) 1 := by
  unfold Wc
  rw [ht, List.filter_eq_self.2 (show ∀ w ∈ fs_ (ej_ r), ([] : List Tie).all (md_ w) = true from fun w _ => rfl), prodL_len, foldl_mul, Nat.one_mul]
  rfl
theorem mx_ (r : Riddle) (a : Aid) : gd_ r a = some true := by
  unfold gd_
  obtain ⟨b, hb⟩ := law07_Large_tot r
  rw [show (⟨r.Locks, r.Codes, r.Known, r.Ties⟩ : Riddle) = r from rfl, hb, Option.bind_some, law07_works_eq]
  cases b
  rotate_left
  · rfl
  rw [if_neg (by simp), ls_, Option.bind_some]
  generalize hr0 : (⟨r.Locks, r.Codes, r.Known, []⟩ : Riddle) = s
  have ht : s.Ties = [] := by rw [← hr0]
  by_cases hs : st s = 0
  rotate_left
  · rw [if_neg hs, if_pos (by simpa using hs)]; rfl
  obtain ⟨g, hf⟩ := mq_ hs
  rw [if_pos hs, if_neg (by simp), law07_all_eq hs, Option.bind_some, if_neg (by simp)]
  have hn := fr_ g
  have hll : (lens s).length = (kg_ s).length := by unfold lens; rw [List.length_map, hn, kf_]
  have hprod := ic_ (k := (kg_ s).length) (fun j => ((((lens s).take j).foldl (· * ·) 1 : Nat) : Int)) (body := fun i1 s1 =>
     (at? (kg_ s) (i1 : Int)).bind fun x9 =>
     some (w64 (s1 * (x9.length : Int)))) (by
    intro j hj
    obtain ⟨p, hp⟩ := bx_ hj
    have hl : (lens s)[j]? = some p.length := by rw [← poss_lens g ht, List.getElem?_map, hp]; rfl
    have hb := chkW_fold (lens s) 1 (by omega) hf (j + 1)
    rw [foldlS hl] at hb
    rw [ce_ hp, Option.bind_some, foldlS hl, ← Int.natCast_mul, du_ (by omega) (by omega)])
  rw [show (forS (σ := Int) _ (kg_ s).length 0 1) = _ from hprod, Option.bind_some, lu_, Option.bind_some, ← hll, List.take_length, worlds_free ht, if_pos (by simp)]
  by_cases hbe : behE s a = 0
  rotate_left
  · rw [if_neg hbe, if_pos (by simpa using hbe)]; rfl
  obtain ⟨_, _, hv, hu⟩ := behE_zero hbe
  have g' := told_good g hv hu
  have hempty : (idxs (ky_ s (told s a)) s.Locks.length).filter (fun x => !(x == a.Lock)) = [] := by
    rw [List.filter_eq_nil_iff]
    intro x hx
    obtain ⟨h0, h1, h2⟩ := idxs_mem.1 hx
    intro hne
    have hxl : ¬ x = a.Lock := by simpa using hne
    obtain ⟨l, c, k, q0, q1, _⟩ := ld_ g hv
    obtain ⟨z, hz⟩ := bx_ (l := ej_ s) (i := x.toNat) (by omega)
    have hz' : (ej_ (told s a))[x.toNat]? = some z := by
      rw [told_rdgs g hv, if_neg (by omega), hz]
    unfold ky_ at h2
    rw [poss_free g ht hz, poss_free g' ht hz'] at h2
    simp at h2
  rw [if_pos hbe, if_neg (by simp)]
  simp only [hempty]
  rfl
end Go.Proofs.Ytlpdpeghgndmkaa.Pad
