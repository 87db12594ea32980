/- More hints never bring codes back: the law holds. -/
import Derived.Test.YtlpdpeghgndmkaaLawHKnows
import Derived.Test.YtlpdpeghgndmkaaLawHM
set_option linter.unusedVariables false
set_option linter.unusedSimpArgs false
namespace Go.Proofs.Ytlpdpeghgndmkaa.Pad
open Go
theorem ml_ (l : List Int) (x : Int) : gp_ l x = some (decide (x ∈ l)) := by
  unfold gp_
  rw [jg_ (l := l) (p := fun y => !decide (y = x)) (r := true) (by
    intro j y hy
    rw [bk_ hy, Option.bind_some]
    by_cases e : y = x <;> simp [e]), Option.bind_some]
  by_cases h : x ∈ l
  · have : (l.all fun y => !decide (y = x)) = false := by
      rw [List.all_eq_false]; exact ⟨x, h, by simp⟩
    rw [this, decide_eq_true h]; rfl
  · have : (l.all fun y => !decide (y = x)) = true := by
      rw [List.all_eq_true]; intro y hy
      have : ¬ y = x := fun e => h (e ▸ hy)
      simp [this]
    rw [this, decide_eq_false h]; rfl
theorem sec_one {ps : List (List Int)} {W : Nat} (hne : 1 ≤ ps.length) (hnd : ps.Nodup) (hl : ∀ c ∈ ps, c.length = W) : (idxs (secP ps) W = []) ↔ ps.length = 1 := by
  obtain ⟨c0, h0⟩ := br_ (l := ps) (i := 0) (by omega)
  have hc0 := hl c0 (List.mem_of_getElem? h0)
  constructor
  · intro he
    rcases Nat.lt_or_ge 1 ps.length with h | h
    · exfalso
      obtain ⟨c1, h1⟩ := br_ (l := ps) (i := 1) h
      have hc1 := hl c1 (List.mem_of_getElem? h1)
      have hne' : c1 ≠ c0 := by
        rintro rfl
        have := inj_get hnd h1 h0
        omega
      have : ∃ w, w < W ∧ c1[w]? ≠ c0[w]? := by
        apply Classical.byContradiction
        intro hn
        apply hne'
        apply List.ext_getElem?
        intro w
        by_cases hw : w < W
        · apply Classical.byContradiction; intro hx; exact hn ⟨w, hw, hx⟩
        · rw [List.getElem?_eq_none (by omega), List.getElem?_eq_none (by omega)]
      obtain ⟨w, hw, hx⟩ := this
      have hm : (w : Int) ∈ idxs (secP ps) W := by
        rw [idxs_mem]
        refine ⟨by omega, by omega, ?_⟩
        rw [Int.toNat_natCast]
        unfold secP
        rw [List.any_eq_true]
        exact ⟨c1, List.mem_of_getElem? h1, by rw [h0]; simpa using hx⟩
      rw [he] at hm; cases hm
    · omega
  · intro h1
    rw [List.eq_nil_iff_forall_not_mem]
    intro x hx
    obtain ⟨_, _, h2⟩ := idxs_mem.1 hx
    unfold secP at h2
    rw [List.any_eq_true] at h2
    obtain ⟨c, hc, hd⟩ := h2
    obtain ⟨k, hk⟩ := List.getElem?_of_mem hc
    have : k = 0 := by have := lt_of_get? hk; omega
    subst this
    rw [h0] at hk
    obtain rfl := Option.some.inj hk
    rw [h0] at hd
    simp at hd
theorem poss_nodup {r : Riddle} (g : Good r) {i : Nat} (hi : i < r.Locks.length) : (poss r i).Nodup := by
  obtain ⟨l, c, k, e1, e2, e3, y, b, d, e, f, z⟩ := g.at_ hi
  rw [ns_ z]
  exact (rdgs_at g z).1.filter _
theorem poss_pos {r : Riddle} (g : Good r) {i : Nat} (hi : i < r.Locks.length) : 1 ≤ (poss r i).length := by
  obtain ⟨l, c, k, e1, e2, e3, y, b, d, e, f, z⟩ := g.at_ hi
  exact List.length_pos_of_mem (code_poss g e2)
structure Tighter (s r : Riddle) : Prop where
  lk : s.Locks = r.Locks
  rd : ∀ (i : Nat) a b, (dv_ r)[i]? = some a → (dv_ s)[i]? = some b → ∀ c ∈ b, c ∈ a
  ti : ∀ t ∈ r.Ties, t ∈ s.Ties
theorem Tighter.world {s r : Riddle} (h : Tighter s r) (g : Good r) (g' : Good s) {w : List (List Int)} (hw : w ∈ Wc s) : w ∈ Wc r := by
  unfold Wc at hw ⊢
  rw [List.mem_filter, List.all_eq_true] at hw ⊢
  obtain ⟨hp, ht⟩ := hw
  obtain ⟨p1, p2⟩ := go_.1 hp
  have n1 := dy_ g; have n2 := dy_ g'
  rw [h.lk] at n2
  refine ⟨go_.2 ⟨by omega, fun i a x ha hx => ?_⟩, fun t hm => ht t (h.ti t hm)⟩
  obtain ⟨b, hb⟩ := br_ (l := dv_ s) (i := i) (by have := lt_of_get? ha; omega)
  exact h.rd i a b ha hb x (p2 i b x hb hx)
theorem Tighter.poss {s r : Riddle} (h : Tighter s r) (g : Good r) (g' : Good s) {i : Nat} (hi : i < r.Locks.length) {c : List Int} (hc : c ∈ poss s i) : c ∈ poss r i := by
  have n1 := dy_ g; have n2 := dy_ g'
  rw [h.lk] at n2
  obtain ⟨a, ha⟩ := br_ (l := dv_ r) (i := i) (by omega)
  obtain ⟨b, hb⟩ := br_ (l := dv_ s) (i := i) (by omega)
  rw [ns_ hb, List.mem_filter] at hc
  rw [ns_ ha, List.mem_filter]
  refine ⟨h.rd i a b ha hb c hc.1, ?_⟩
  have h2 := hc.2
  unfold nf_ at h2 ⊢
  rw [List.any_eq_true] at h2 ⊢
  obtain ⟨w, hw, e⟩ := h2
  exact ⟨w, h.world g g' hw, e⟩
theorem told_tighter {r : Riddle} (g : Good r) {a : Aid} (hv : jl_ r a = true) : Tighter (told r a) r := by
  refine ⟨rfl, fun i x y hx hy c hc => ?_, fun t ht => ht⟩
  rw [told_rdgs g hv i, hx] at hy
  by_cases e : i = a.Lock.toNat
  · rw [if_pos e] at hy
    obtain rfl := Option.some.inj hy
    exact (List.mem_filter.1 hc).1
  · rw [if_neg e] at hy
    obtain rfl := Option.some.inj hy
    exact hc
theorem nodup_sub_len {l m : List (List Int)} (hl : l.Nodup) (hs : ∀ x ∈ l, x ∈ m) : l.length ≤ m.length := by
  induction l generalizing m with
  | nil => simp
  | cons x l ih =>
    have hx := hs x (by simp)
    obtain ⟨p, q, rfl⟩ := List.append_of_mem hx
    have hn := List.nodup_cons.1 hl
    have := ih (m := p ++ q) hn.2 (fun y hy => by
      have hy' := hs y (by simp [hy])
      rcases List.mem_append.1 hy' with h | h
      · simp [h]
      · rcases List.mem_cons.1 h with rfl | h
        · exact absurd hy hn.1
        · simp [h])
    simp only [List.length_append, List.length_cons] at this ⊢
    omega
theorem law07_HintsMore_eq (r : Riddle) (a : Aid) (t : Tie) : hq_ r a t = some true := by
  unfold hq_
  obtain ⟨b, hb⟩ := law07_Large_tot r
  rw [hb, Option.bind_some, law07_works_eq]
  cases b
  rotate_left
  · rfl
  rw [if_neg (by simp), hints_Sure_eq]
  by_cases hs : st r = 0
  rotate_left
  · obtain ⟨b2, h2⟩ := law07_all_tot r hs
    rw [h2, Option.bind_some, if_neg hs, Option.bind_some]
    cases b2
    · rfl
    · rw [if_neg (by simp), if_pos (by simpa using hs)]; rfl
  obtain ⟨g, hf⟩ := jm_ hs
  have n8 := g.n8
  rw [law07_all_eq hs, Option.bind_some, if_pos hs, Option.bind_some, if_neg (by simp), hs, if_neg (by simp)]
  have hsure : ∀ i : Nat, i < r.Locks.length → decide (((i : Int)) ∈ idxs (ks_ r) r.Locks.length) = decide ((poss r i).length = 1) := by
    intro i hi
    refine decide_eq_decide.2 ?_
    rw [idxs_mem, Int.toNat_natCast]
    unfold ks_
    rw [decide_eq_true_iff]
    exact ⟨fun h => h.2.2, fun h => ⟨by omega, by omega, h⟩⟩
  have l1 := jg_ (l := List.range r.Locks.length) (p := fun _ => true) (r := false) (body := fun i1 s1 =>
     (hg_ r (i1 : Int)).bind fun x18 =>
     if x18.2 != 0 then
     (some (Sum.inr false))
     else
     ((gp_ (idxs (ks_ r) r.Locks.length) (i1 : Int)).bind fun x19 =>
     if ((x18.1.length : Int) == 0) != x19 then
     (some (Sum.inr false))
     else
     ((at? (lr_ r) (i1 : Int)).bind fun x20 =>
     if ((x20.length : Int) == 1) != x19 then
     (some (Sum.inr false))
     else
     (some (Sum.inl ()))))) (by
    intro j x hx
    obtain ⟨hj, rfl⟩ := range_get hx
    obtain ⟨sc, s1, _, s3, s4⟩ := hints_Secret_eq r (x : Int)
    have hpe : posE r (x : Int) = 0 := by unfold posE; rw [if_pos hs, ey_.2 (by omega)]; rfl
    obtain ⟨l, hl, he⟩ := s4 hpe
    rw [Int.toNat_natCast] at hl he
    have hlk := g.at_ hj
    obtain ⟨l', _, _, e1, _, _, lk, _⟩ := hlk
    rw [hl] at e1
    obtain rfl := Option.some.inj e1
    have hw := lk.w1
    have hiff := sec_one (ps := poss r x) (W := l.Wheels.toNat) (poss_pos g hj) (poss_nodup g hj) (fun c hc => by have := (dn_.1 (poss_mem g hl hc)).1; omega)
    rw [s1, Option.bind_some, s3, hpe, if_neg (by simp), ml_, hsure x hj, Option.bind_some, he, bk_ (iv_ hj)]
    have hp1 := poss_pos g hj
    by_cases h1 : (poss r x).length = 1
    · rw [hiff.2 h1]; simp [h1]
    · have : ¬ idxs (secP (poss r x)) l.Wheels.toNat = [] := fun q => h1 (hiff.1 q)
      have hlen : ¬ ((idxs (secP (poss r x)) l.Wheels.toNat).length : Int) = 0 := by
        intro q; exact this (List.length_eq_zero_iff.1 (by omega))
      have h1' : ¬ ((poss r x).length : Int) = 1 := by omega
      have b1 : (((idxs (secP (poss r x)) l.Wheels.toNat).length : Int) == 0) = false := by simpa using hlen
      have b2 : (((poss r x).length : Int) == 1) = false := by simpa using h1'
      simp [b1, b2, h1]
      exact h1')
  rw [List.length_range, show ((List.range r.Locks.length).all fun _ => true) = true by simp, if_pos rfl] at l1
  refine (congrArg (fun o => Option.bind o _) l1).trans ?_
  rw [Option.bind_some]
  simp only [onL]
  rw [hints_Tell_eq, Option.bind_some]
  obtain ⟨q, hq, gq, fq, tq⟩ : ∃ q : Riddle, (if (if behE r a = 0 then (told r a, (0 : Int)) else ((⟨[], [], [], []⟩ : Riddle), behE r a)).2 != 0 then some (r.Locks, r.Codes, r.Known, r.Ties) else some ((if behE r a = 0 then (told r a, (0 : Int)) else ((⟨[], [], [], []⟩ : Riddle), behE r a)).1.Locks, (if behE r a = 0 then (told r a, (0 : Int)) else ((⟨[], [], [], []⟩ : Riddle), behE r a)).1.Codes, (if behE r a = 0 then (told r a, (0 : Int)) else ((⟨[], [], [], []⟩ : Riddle), behE r a)).1.Known, (if behE r a = 0 then (told r a, (0 : Int)) else ((⟨[], [], [], []⟩ : Riddle), behE r a)).1.Ties)) = some (q.Locks, q.Codes, q.Known, q.Ties) ∧ Good q ∧ fitW q = true ∧ Tighter q r ∧ q.Ties = r.Ties := by
    by_cases hbe : behE r a = 0
    · obtain ⟨_, _, hv, hu⟩ := behE_zero hbe
      rw [if_pos hbe]
      exact ⟨told r a, rfl, told_good g hv hu, told_fit g hv hu hf, told_tighter g hv, rfl⟩
    · rw [if_neg hbe]
      refine ⟨r, by rw [if_pos (by simpa using hbe)], g, hf, ⟨rfl, fun i x y hx hy c hc => by rw [hx] at hy; obtain rfl := Option.some.inj hy; exact hc, fun t ht => ht⟩, rfl⟩
  obtain ⟨tq, tie_q⟩ := tq
  refine (congrArg (fun o => Option.bind o _) hq).trans ?_
  rw [Option.bind_some]
  simp only
  rw [cx_ (by simp; have := gq.ht; omega), Option.bind_some, List.nil_append, cx_ (by rw [List.length_singleton]; have := gq.ht; omega), Option.bind_some, nm_]
  obtain ⟨u, hu, gu, fu, tu⟩ : ∃ u : Riddle, ((some (if okR ⟨q.Locks, q.Codes, q.Known, q.Ties ++ [t]⟩ = true then (0 : Int) else 70)).bind fun x25 => if x25 != 0 then some r.Ties else some (q.Ties ++ [t])) = some u.Ties ∧ Good u ∧ fitW u = true ∧ Tighter u r ∧ u = ⟨q.Locks, q.Codes, q.Known, u.Ties⟩ := by
    rw [Option.bind_some]
    by_cases ho : okR ⟨q.Locks, q.Codes, q.Known, q.Ties ++ [t]⟩ = true
    · rw [if_pos ho, if_neg (by simp)]
      exact ⟨⟨q.Locks, q.Codes, q.Known, q.Ties ++ [t]⟩, rfl, okR_iff.1 ho, fq, ⟨tq.lk, tq.rd, fun x hx => List.mem_append_left _ (tq.ti x hx)⟩, rfl⟩
    · rw [if_neg ho, if_pos (by simp), ← tie_q]
      exact ⟨q, rfl, gq, fq, tq, rfl⟩
  obtain ⟨tu, eu⟩ := tu
  refine (congrArg (fun o => Option.bind o _) hu).trans ?_
  rw [Option.bind_some, ← eu]
  have hsu := st_good gu fu
  have hlu : u.Locks.length = r.Locks.length := by rw [tu.lk]
  rw [law07_all_eq hsu, Option.bind_some, hints_Sure_eq, if_pos hsu, Option.bind_some, if_neg (by simp), hsu, if_neg (by simp)]
  have l2 := jg_ (l := List.range r.Locks.length) (p := fun _ => true) (r := false) (body := fun i2 s6 =>
     (ef_ (σ := (Int)) (ρ := (Int) ⊕ (Unit ⊕ Bool)) (fun s7 =>
     (at? (lr_ u) (i2 : Int)).bind fun x113 =>
     if decide (s7 < (x113.length : Int)) then
     ((at? (lr_ r) (i2 : Int)).bind fun x114 =>
     (at? (lr_ u) (i2 : Int)).bind fun x115 =>
     (at? x115 s7).bind fun x116 =>
     (gw_ x114 x116).bind fun x117 =>
     if !x117 then
     (some (Sum.inr (Sum.inr (Sum.inr false))))
     else
     (some (Sum.inl (w64 (s7 + 1)))))
     else
     (some (Sum.inr (Sum.inl s7)))) 0).bind fun o12 => onL o12 fun out6 =>
     (gp_ (idxs (ks_ r) r.Locks.length) (i2 : Int)).bind fun x118 =>
     if x118 then
     ((gp_ (idxs (ks_ u) u.Locks.length) (i2 : Int)).bind fun x119 =>
     if !x119 then
     (some (Sum.inr false))
     else
     (some (Sum.inl ())))
     else
     (some (Sum.inl ()))) (by
    intro j x hx
    obtain ⟨hj, rfl⟩ := range_get hx
    have hju : x < u.Locks.length := by omega
    have hbu := poss_bd gu x
    rw [bk_ (iv_ hj), bk_ (iv_ hju)]
    rw [whileO_all (l := poss u x) (p := fun _ => true) (r := (Sum.inr false : Unit ⊕ Bool)) (by
      intro i c hc
      have hi := lt_of_get? hc
      rw [Option.bind_some, if_pos (by simpa using hi), Option.bind_some, Option.bind_some, bk_ hc, Option.bind_some, holds_mem (tu.poss g gu hj (List.mem_of_getElem? hc)), Option.bind_some, eb_ (by omega) (by omega)]
      rfl) (by rw [Option.bind_some, if_neg (by simp)]), Option.bind_some, show ((poss u x).all fun _ => true) = true by simp, if_pos rfl]
    simp only [onL]
    rw [ml_, hsure x hj, Option.bind_some, ml_, Option.bind_some]
    by_cases h1 : (poss r x).length = 1
    · have hle := nodup_sub_len (poss_nodup gu hju) (fun c hc => tu.poss g gu hj hc)
      have hpu := poss_pos gu hju
      have hmem : (x : Int) ∈ idxs (ks_ u) u.Locks.length := by
        rw [idxs_mem, Int.toNat_natCast]
        refine ⟨by omega, by omega, ?_⟩
        unfold ks_
        rw [decide_eq_true_iff]; omega
      rw [decide_eq_true h1, if_pos rfl, decide_eq_true hmem]; rfl
    · rw [decide_eq_false h1]; rfl)
  rw [List.length_range, show ((List.range r.Locks.length).all fun _ => true) = true by simp, if_pos rfl] at l2
  rw [mi_]
  refine (congrArg (fun o => Option.bind o _) l2).trans ?_
  rfl
end Go.Proofs.Ytlpdpeghgndmkaa.Pad
