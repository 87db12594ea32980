/- The true codes are always possible; all possible codes of all locks; what is small. -/
import Derived.Test.YtlpdpeghgndmkaaLawHK
set_option linter.unusedVariables false
set_option linter.unusedSimpArgs false
namespace Go.Proofs.Ytlpdpeghgndmkaa.Pad
open Go
theorem codes_prod {r : Riddle} (g : Good r) : r.Codes ∈ fz_ (es_ r) := by
  rw [ie_]
  refine ⟨by rw [fu_ g]; exact g.hc, fun i a x ha hx => ?_⟩
  obtain ⟨l, c, k, e1, e2, e3, y, b, d, e, f, z⟩ := g.at_ (i := i) (by have := lt_of_get? ha; rwa [fu_ g] at this)
  rw [z] at ha; rw [e2] at hx
  obtain rfl := Option.some.inj ha
  obtain rfl := Option.some.inj hx
  exact (rdg_mem y).2 ⟨b, f⟩
theorem codes_world {r : Riddle} (g : Good r) : r.Codes ∈ Wc r := by
  unfold Wc
  rw [List.mem_filter]
  exact ⟨codes_prod g, List.all_eq_true.2 fun t ht => (okTie_at (g.ti t ht)).2⟩
theorem Wc_pos {r : Riddle} (g : Good r) : 1 ≤ (Wc r).length := List.length_pos_of_mem (codes_world g)
theorem code_poss {r : Riddle} (g : Good r) {i : Nat} {c : List Int} (hc : r.Codes[i]? = some c) : c ∈ poss r i := by
  have hi : i < r.Locks.length := by have := lt_of_get? hc; rwa [g.hc] at this
  obtain ⟨l, c', k, e1, e2, e3, y, b, d, e, f, z⟩ := g.at_ hi
  rw [e2] at hc
  obtain rfl := Option.some.inj hc
  rw [poss_at z, List.mem_filter]
  refine ⟨(rdg_mem y).2 ⟨b, f⟩, ?_⟩
  unfold mayBe
  rw [List.any_eq_true]
  exact ⟨_, codes_world g, by simp [e2]⟩
theorem rdg_pos {r : Riddle} (g : Good r) {i : Nat} {a : List (List Int)} (ha : (es_ r)[i]? = some a) : 1 ≤ a.length := by
  have hi : i < r.Locks.length := by have := lt_of_get? ha; rwa [fu_ g] at this
  obtain ⟨l, c, k, e1, e2, e3, y, b, d, e, f, z⟩ := g.at_ hi
  rw [z] at ha
  obtain rfl := Option.some.inj ha
  exact List.length_pos_of_mem ((rdg_mem y).2 ⟨b, f⟩)
theorem law07_all_eq {r : Riddle} (h : st r = 0) : jc_ r = some (lr_ r, true) := by
  obtain ⟨g, hf⟩ := st_zero h
  have n8 := g.n8
  unfold jc_
  have := forN_ix (σ := List (List (List Int))) (ρ := List (List (List Int)) × Bool) (k := r.Locks.length) (fun j => (lr_ r).take j) (body := fun i1 s1 =>
     (ey_ r (i1 : Int)).bind fun x7 =>
     if x7.2 != 0 then
     (some (Sum.inr (([] : List (List (List Int))), false)))
     else
     ((push? s1 ([x7.1] : List (List (List Int)))).bind fun x8 =>
     some (Sum.inl x8))) (by
    intro j hj
    have hp : posE r (j : Int) = 0 := by unfold posE; rw [if_pos h, fb_.2 (by omega)]; rfl
    rw [hints_Possible_eq, Option.bind_some, if_pos hp, hp, if_neg (by simp), ep_ (by rw [List.length_take, List.length_singleton]; omega), Option.bind_some, lk_ (kj_ hj)]
    rfl)
  refine (congrArg (fun o => Option.bind o _) this).trans ?_
  rw [Option.bind_some, ← lq_ r, List.take_length]
  rfl
theorem law07_holds_eq (ps : List (List Int)) (c : List Int) : fo_ ps c = some (ps.any fun x => decide (x = c)) := by
  unfold fo_
  rw [mm_ (l := ps) (p := fun x => !decide (x = c)) (r := true) (by
    intro j x hx
    rw [bz_ hx, Option.bind_some, hn_, Option.bind_some]
    by_cases e : x = c <;> simp [e]), Option.bind_some]
  rw [List.all_eq_not_any_not]
  simp only [Bool.not_not]
  cases ps.any fun x => decide (x = c) <;> rfl
theorem holds_mem {ps : List (List Int)} {c : List Int} (h : c ∈ ps) : fo_ ps c = some true := by
  rw [law07_holds_eq]
  congr 1
  rw [List.any_eq_true]
  exact ⟨c, h, by simp⟩
theorem large_fit {r : Riddle} (g : Good r) (h : gm_ r = some false) : fitW r = true := by
  unfold gm_ at h
  rw [mq_, okR_iff.2 g, Option.bind_some, if_pos rfl, if_neg (by simp)] at h
  have hn := fu_ g
  have hlen : (lens r).length = r.Locks.length := by unfold lens; rw [List.length_map, hn]
  have key : ∀ (k i s : Nat), i + k = (lens r).length → 1 ≤ s → s ≤ 200 → ((forN (σ := Int) (ρ := Bool) (fun i1 s1 =>
     (at? r.Locks (i1 : Int)).bind fun x11 =>
     (at? r.Known (i1 : Int)).bind fun x12 =>
     (jb_ x11 x12).bind fun x13 =>
     if decide (200 < (w64 (s1 * (ld_ 201 (x13.length : Int))))) then
     (some (Sum.inr true))
     else
     (some (Sum.inl (w64 (s1 * (ld_ 201 (x13.length : Int))))))) k i (s : Int)).bind fun o2 => onL o2 fun _ => some false) = some false → chkW s ((lens r).drop i) = true := by
    intro k
    induction k with
    | zero => intro i s hk _ _ _; rw [List.drop_of_length_le (by omega)]; rfl
    | succ k ih =>
      intro i s hk hs1 hs2 hh
      obtain ⟨l, c, kn, e1, e2, e3, a, b, d, e, f, z⟩ := g.at_ (i := i) (by omega)
      have hpos := rdg_pos g z
      have hi : i < (lens r).length := by omega
      have hx : (lens r)[i] = (rdg l kn).length := by
        have h2 : (lens r)[i]? = some (rdg l kn).length := by unfold lens; rw [List.getElem?_map, z]; rfl
        rw [List.getElem?_eq_getElem hi] at h2; exact Option.some.inj h2
      simp only [forN] at hh
      rw [bz_ e1, Option.bind_some, bz_ e3, Option.bind_some, ref01_All_eq a e, Option.bind_some] at hh
      rw [List.drop_eq_getElem_cons hi, hx, chkW]
      have hb := rdg_bd a kn
      generalize (rdg l kn).length = m at hh hpos hb
      by_cases hm : m ≤ 200
      · have hmin : ld_ 201 (m : Int) = (m : Int) := by unfold ld_; split <;> omega
        have hmul : s * m ≤ 200 * 200 := Nat.mul_le_mul hs2 hm
        have hmul1 : 1 ≤ s * m := Nat.mul_pos hs1 hpos
        rw [hmin, ← Int.natCast_mul, di_ (by omega) (by omega)] at hh
        by_cases hc : 200 < s * m
        · rw [if_pos (decide_eq_true (by omega))] at hh
          cases hh
        · rw [if_neg (fun q => hc (by have := of_decide_eq_true q; omega))] at hh
          rw [if_neg (by omega)]
          exact ih (i + 1) (s * m) (by omega) hmul1 (by omega) hh
      · exfalso
        have hmin : ld_ 201 (m : Int) = 201 := by unfold ld_; split <;> omega
        rw [hmin, di_ (by omega) (by omega), if_pos (decide_eq_true (by omega))] at hh
        cases hh
  have := key r.Locks.length 0 1 (by omega) (by omega) (by omega) h
  rwa [List.drop_zero] at this
end Go.Proofs.Ytlpdpeghgndmkaa.Pad
