/- Aids: what is told, what it leaves, what it spoils. -/
import Derived.Test.YtlpdpeghgndmkaaLawHI
set_option linter.unusedVariables false
set_option linter.unusedSimpArgs false
namespace Go.Proofs.Ytlpdpeghgndmkaa.Pad
open Go
theorem idxF_first {α : Type} {l : List α} {f : α → Option Bool} {p : α → Bool} (hf : ∀ x ∈ l, f x = some (p x)) : (idxF l f = some (-1) ∧ ∀ x ∈ l, p x = false) ∨ ∃ (k : Nat) (x : α), idxF l f = some (k : Int) ∧ l[k]? = some x ∧ p x = true ∧ ∀ y ∈ l.take k, p y = false := by
  have h := Tot.bind (Q := fun r => (r = -1 ∧ ∀ x ∈ l, p x = false) ∨ ∃ (k : Nat) (x : α), r = (k : Int) ∧ l[k]? = some x ∧ p x = true ∧ ∀ y ∈ l.take k, p y = false) _ (Tot.forN (σ := Unit) (ρ := Int) (k := l.length) (s := ()) (body := fun i1 s1 => (at? l (i1 : Int)).bind fun x5 => (f x5).bind fun x6 => if x6 then some (Sum.inr (i1 : Int)) else some (Sum.inl ()))
    (fun j _ => ∀ y ∈ l.take j, p y = false) (fun (r : Int) => ∃ (k : Nat) (x : α), r = (k : Int) ∧ l[k]? = some x ∧ p x = true ∧ ∀ y ∈ l.take k, p y = false) (fun y hy => by simp at hy) (by
      intro j s hj hI
      refine Tot.bind _ (Tot.atN hj) fun x hx => ?_
      rw [hf x (List.mem_of_getElem? hx), Option.bind_some]
      refine Tot.ite (fun hh => Tot.pure ⟨j, x, rfl, hx, hh, hI⟩) (fun hh => Tot.pure ?_)
      show ∀ y ∈ l.take (j + 1), p y = false
      rw [oe_ hx]
      intro y hy
      rcases List.mem_append.1 hy with hy | hy
      · exact hI y hy
      · rw [List.mem_singleton.1 hy]; simpa using hh)) (f := fun o2 => onL o2 fun _ => some (-1)) (fun o ho => Tot.onL (E := fun r => ∃ (k : Nat) (x : α), r = (k : Int) ∧ l[k]? = some x ∧ p x = true ∧ ∀ y ∈ l.take k, p y = false) ho (fun _ hh => Tot.pure (.inl ⟨rfl, by rwa [List.take_length] at hh⟩)) (fun r hh => .inr hh))
  obtain ⟨r, h1, h2⟩ := h
  rcases h2 with ⟨rfl, h2⟩ | ⟨k, x, rfl, a, b, c⟩
  · exact .inl ⟨h1, h2⟩
  · exact .inr ⟨k, x, h1, a, b, c⟩
theorem del_eq {l : List Int} {f : Int → Option Bool} {p : Int → Bool} (hn : l.length ≤ 100000) (hf : ∀ x ∈ l, f x = some (p x)) : dl_ l f = some (l.filter fun x => !p x) := by
  unfold dl_
  rcases idxF_first hf with ⟨h1, h2⟩ | ⟨k, x, h1, hx, hp, h2⟩
  · rw [show da_ l f = some (-1) from h1, Option.bind_some, if_pos (by rfl)]
    congr 1
    symm
    rw [List.filter_eq_self]
    intro y hy; simp [h2 y hy]
  · rw [show da_ l f = some (k : Int) from h1, Option.bind_some, if_neg (by simp)]
    have hkl := lt_of_get? hx
    have hw := jo_ (σ := List Int × Int × Int) (ρ := List Int × Int × Int) (body := fun s1 =>
       if decide (s1.2.2 < (s1.1.length : Int)) then
       ((at? s1.1 s1.2.2).bind fun x20 =>
       (f x20).bind fun x21 =>
       if !x21 then
       ((at? s1.1 s1.2.1).bind fun x22 =>
       some (Sum.inl (s1.1.set (s1.2.1).toNat x20, w64 (s1.2.1 + 1), w64 (s1.2.2 + 1))))
       else
       (some (Sum.inl (s1.1, s1.2.1, w64 (s1.2.2 + 1)))))
       else
       (some (Sum.inr (s1.1, s1.2.1, s1.2.2))))
      (fun j s => s.1.length = l.length ∧ s.2.2 = (j : Int) ∧ ∃ w : Nat, s.2.1 = (w : Int) ∧ w < j ∧ s.1.take w = (l.take j).filter (fun x => !p x) ∧ ∀ q, j ≤ q → s.1[q]? = l[q]?)
      (fun r => ∃ w : Nat, r.2.1 = (w : Int) ∧ r.1.length = l.length ∧ w ≤ l.length ∧ r.1.take w = l.filter (fun x => !p x)) (l.length - (k + 1)) (k + 1) (l, (k : Int), w64 ((k : Int) + 1)) (by
        refine ⟨rfl, by simp only; rw [ea_ (by omega) (by omega)]; rfl, k, rfl, by omega, ?_, fun q _ => rfl⟩
        rw [oe_ hx, List.filter_append]
        simp only [hp, Bool.not_true, List.filter_cons, List.filter_nil, Bool.false_eq_true, if_false, List.append_nil]
        symm; rw [List.filter_eq_self]
        intro y hy; simp [h2 y hy]) (by
        rintro j ⟨a, b, c⟩ hj1 hj2 ⟨e1, e2, w, e3, e4, e5, e6⟩
        simp only at e1 e2 e3 e5 e6
        subst e2; subst e3
        obtain ⟨y, hy⟩ := bx_ (l := l) (i := j) (by omega)
        have hay : a[j]? = some y := by rw [e6 j (Nat.le_refl _), hy]
        refine .inl ?_
        simp only
        rw [if_pos (by simp; omega), cf_ hay, Option.bind_some, hf y (List.mem_of_getElem? hy), Option.bind_some, ea_ (n := (j : Int) + 1) (by omega) (by omega)]
        cases hpy : p y
        · obtain ⟨z, hz⟩ := bx_ (l := a) (i := w) (by omega)
          rw [if_pos (by rfl), cf_ hz, Option.bind_some, Int.toNat_natCast, ea_ (by omega) (by omega)]
          refine ⟨_, rfl, by simp [e1], rfl, w + 1, rfl, by omega, ?_, fun q hq => ?_⟩
          · simp only
            have hs : (a.set w y)[w]? = some y := by rw [List.getElem?_set_self (by omega)]
            rw [oe_ hs, oe_ hy, List.filter_append, List.take_set_of_le (Nat.le_refl _), e5]
            simp [hpy]
          · simp only
            rw [List.getElem?_set_ne (by omega)]
            exact e6 q (by omega)
        · rw [if_neg (by simp)]
          refine ⟨_, rfl, e1, rfl, w, rfl, by omega, ?_, fun q hq => e6 q (by omega)⟩
          simp only
          rw [oe_ hy, List.filter_append, e5]
          simp [hpy]) (by
        rintro ⟨a, b, c⟩ ⟨e1, e2, w, e3, e4, e5, e6⟩
        simp only at e1 e2 e3 e5 e6
        refine ⟨(a, b, c), ?_, w, e3, e1, by omega, ?_⟩
        · simp only
          rw [if_neg (by simp; omega)]
        · simp only
          rw [e5, show k + 1 + (l.length - (k + 1)) = l.length by omega, List.take_length])
    obtain ⟨⟨a, b, c⟩, w1, w, w2, w3, w4, w5⟩ := hw
    simp only at w2 w3 w5
    subst w2
    refine (congrArg (fun o => Option.bind o _) w1).trans ?_
    rw [Option.bind_some]
    simp only
    have s1 : sub? a (w : Int) (a.length : Int) = some ((a.take a.length).drop w) := by
      unfold sub?; rw [if_pos ⟨by omega, by omega, by omega⟩]; simp
    have s2 : sub? (a.take w ++ List.replicate (a.length - w) (0 : Int)) 0 (w : Int) = some (a.take w) := by
      unfold sub?
      rw [if_pos ⟨by omega, by omega, by rw [List.length_append, List.length_take, List.length_replicate]; omega⟩]
      rw [Int.toNat_natCast, List.take_append_of_le_length (by rw [List.length_take]; omega), List.take_take, Nat.min_self]
      rfl
    rw [s1, Option.bind_some, Int.toNat_natCast, s2, Option.bind_some, w5]
theorem guess_bd {l : CodeLock} (hl : Lk l) {q : Clue} (h : df_ l q = true) : q.Guess.length ≤ 4 := by
  have hw := hl.w2
  unfold df_ at h
  by_cases h6 : q.Kind = 6
  · rw [if_neg (by omega), if_neg (by omega), if_neg (by omega), if_neg (by omega), if_pos h6] at h
    simp only [Bool.and_eq_true] at h
    have := (fh_.1 h.1).1
    omega
  · have : q.Guess = [] := by
      repeat' split at h
      all_goals simp_all
    rw [this]; simp
theorem clone_int {l : List Int} (h : l.length ≤ 100000) : cn_ l = some l := by
  unfold cn_; rw [ep_ (by simp; omega), List.nil_append]
theorem cloneClue_eq {q : Clue} (h : q.Guess.length ≤ 4) : dn_ q = some q := by
  unfold dn_; rw [clone_int (by omega), Option.bind_some]
theorem hints_clone_eq {r : Riddle} (g : Good r) : kh_ r = some r := by
  have n8 := g.n8; have hc := g.hc; have hk := g.hk; have ht := g.ht
  unfold kh_ em_ gv_
  rw [ep_ (by simp; omega), Option.bind_some, ep_ (by simp; omega), Option.bind_some, List.nil_append, List.nil_append]
  have l1 := kj_ (k := r.Locks.length) (fun j => (r.Codes.take j, r.Known.take j)) (body := fun i4 s4 =>
     (at? r.Codes (i4 : Int)).bind fun x54 =>
     (cn_ x54).bind fun x55 =>
     (push? s4.1 ([x55] : List (List Int))).bind fun x56 =>
     (at? r.Known (i4 : Int)).bind fun x57 =>
     (forS (σ := (List Clue)) (fun i5 s5 =>
     (at? x57 (i5 : Int)).bind fun x67 =>
     (dn_ x67).bind fun x68 =>
     (push? s5 ([x68] : List Clue)).bind fun x69 =>
     some x69) x57.length 0 ([])).bind fun out5 =>
     (push? s4.2 [out5]).bind fun x70 =>
     some (x56, x70)) (by
    intro j hj
    obtain ⟨l, c, k, e1, e2, e3, a, b, d, e, f, z⟩ := g.at_ hj
    have hcl := (fh_.1 b).1
    have := a.w2
    have l2 := kj_ (k := k.length) (fun i => k.take i) (body := fun i5 s5 =>
       (at? k (i5 : Int)).bind fun x67 =>
       (dn_ x67).bind fun x68 =>
       (push? s5 ([x68] : List Clue)).bind fun x69 =>
       some x69) (by
      intro i hi
      obtain ⟨q, hq⟩ := bx_ hi
      rw [cf_ hq, Option.bind_some, cloneClue_eq (guess_bd a (e q (List.mem_of_getElem? hq))), Option.bind_some, ep_ (by rw [List.length_take, List.length_singleton]; omega), Option.bind_some, oe_ hq])
    rw [List.take_length] at l2
    rw [cf_ e2, Option.bind_some, clone_int (by omega), Option.bind_some]
    simp only
    rw [ep_ (by rw [List.length_take, List.length_singleton]; omega), Option.bind_some, cf_ e3, Option.bind_some]
    refine (congrArg (fun o => Option.bind o _) (show forS (σ := List Clue) _ k.length 0 _ = _ from l2)).trans ?_
    rw [Option.bind_some, ep_ (by rw [List.length_take, List.length_singleton]; omega), Option.bind_some, oe_ e2, oe_ e3])
  refine (congrArg (fun o => Option.bind o _) (show forS (σ := List (List Int) × List (List Clue)) _ r.Locks.length 0 _ = _ from l1)).trans ?_
  rw [Option.bind_some]
  simp only
  rw [← hc, List.take_length, hc, ← hk, List.take_length]
noncomputable def hf_ (r : Riddle) (a : Aid) : Bool := wi a.Lock 0 (r.Locks.length - 1) && (match r.Locks[a.Lock.toNat]?, r.Codes[a.Lock.toNat]? with
  | some l, some c => pb_ l c a.Clue
  | _, _ => false)
def fullR (r : Riddle) (a : Aid) : Bool := decide (20 ≤ (r.Known[a.Lock.toNat]?.getD []).length)
def told (r : Riddle) (a : Aid) : Riddle := ⟨r.Locks, r.Codes, r.Known.set a.Lock.toNat ((r.Known[a.Lock.toNat]?.getD []) ++ [a.Clue]), r.Ties⟩
noncomputable def behE (r : Riddle) (a : Aid) : Int := if st r = 0 then (if hf_ r a then (if fullR r a then 2 else 0) else 70) else st r
theorem jx_ {r : Riddle} (g : Good r) {a : Aid} (h : hf_ r a = true) : ∃ l c k, 0 ≤ a.Lock ∧ a.Lock < r.Locks.length ∧ r.Locks[a.Lock.toNat]? = some l ∧ r.Codes[a.Lock.toNat]? = some c ∧ r.Known[a.Lock.toNat]? = some k ∧ Lk l ∧ cp_ l c = true ∧ k.length ≤ 20 ∧ (∀ q ∈ k, df_ l q = true) ∧ (∀ q ∈ k, tr q c = true) ∧ df_ l a.Clue = true ∧ tr a.Clue c = true ∧ (fb_ r)[a.Lock.toNat]? = some (rdg l k) := by
  unfold hf_ at h
  rw [Bool.and_eq_true] at h
  obtain ⟨h1, h2⟩ := ek_.1 h.1
  obtain ⟨l, c, k, e1, e2, e3, x, b, d, e, f, z⟩ := g.at_ (i := a.Lock.toNat) (by omega)
  have h3 := h.2
  rw [e1, e2] at h3
  simp only [pb_, Bool.and_eq_true] at h3
  exact ⟨l, c, k, h1, by omega, e1, e2, e3, x, b, d, e, f, h3.1, h3.2, z⟩
theorem ol_ {r : Riddle} (g : Good r) (a : Aid) : iw_ r a = some (hf_ r a) := by
  unfold iw_ hf_
  rw [g.w1, cy_, Option.bind_some]
  cases hw : wi a.Lock 0 (r.Locks.length - 1)
  · rfl
  obtain ⟨h1, h2⟩ := ek_.1 hw
  obtain ⟨l, c, k, e1, e2, e3, x, b, d, e, f, z⟩ := g.at_ (i := a.Lock.toNat) (by omega)
  unfold jt_
  rw [if_pos rfl, fr_ h1 e1, Option.bind_some, fr_ h1 e2, Option.bind_some, nt_, Option.bind_some, e1, e2]
  simp [okFit, hw_.2 x, b]
theorem hints_full_eq {r : Riddle} (g : Good r) {a : Aid} (h0 : 0 ≤ a.Lock) (h1 : a.Lock < r.Locks.length) : mb_ r a.Lock = some (fullR r a) := by
  obtain ⟨l, c, k, e1, e2, e3, x, b, d, e, f, z⟩ := g.at_ (i := a.Lock.toNat) (by omega)
  unfold mb_ fullR
  rw [fr_ h0 e3, Option.bind_some, e3]
  congr 1
  have : ((k.length : Int) == 20) = decide ((k.length : Int) = 20) := rfl
  rw [this]
  exact decide_eq_decide.2 (by simp only [Option.getD_some]; omega)
theorem ml_ {r : Riddle} (g : Good r) {a : Aid} (h : hf_ r a = true) : gf_ r a = some (told r a) := by
  obtain ⟨l, c, k, h0, h1, e1, e2, e3, x, b, d, e, f, p1, p2, z⟩ := jx_ g h
  unfold gf_ told
  rw [hints_clone_eq g, Option.bind_some, fr_ h0 e3, Option.bind_some, cloneClue_eq (guess_bd x p1), Option.bind_some, ep_ (by rw [List.length_singleton]; omega), Option.bind_some, e3]
  rfl
theorem told_known {r : Riddle} {a : Aid} {k : List Clue} (h : r.Known[a.Lock.toNat]? = some k) (i : Nat) : (told r a).Known[i]? = if i = a.Lock.toNat then some (k ++ [a.Clue]) else r.Known[i]? := by
  unfold told
  simp only
  rw [h, List.getElem?_set]
  by_cases e : a.Lock.toNat = i
  · rw [if_pos e, if_pos e.symm, if_pos (lt_of_get? h)]; rfl
  · rw [if_neg e, if_neg (fun x => e x.symm)]
theorem jy_ {r : Riddle} (g : Good r) {a : Aid} (h : hf_ r a = true) (hf : fullR r a = false) : Good (told r a) := by
  obtain ⟨l, c, k, h0, h1, e1, e2, e3, x, b, d, e, f, p1, p2, z⟩ := jx_ g h
  have hk := told_known e3
  refine ⟨g.n1, g.n8, g.hc, ?_, g.ht, ?_, fun t ht => g.ti t ht⟩
  · show (r.Known.set _ _).length = _
    rw [List.length_set]; exact g.hk
  · intro i l' c' k' q1 q2 q3
    rw [hk i] at q3
    by_cases ei : i = a.Lock.toNat
    · rw [if_pos ei] at q3
      subst ei
      rw [show (told r a).Locks = r.Locks from rfl, e1] at q1
      rw [show (told r a).Codes = r.Codes from rfl, e2] at q2
      obtain rfl := Option.some.inj q1
      obtain rfl := Option.some.inj q2
      obtain rfl := Option.some.inj q3
      have : k.length < 20 := by
        unfold fullR at hf
        rw [e3] at hf
        have := of_decide_eq_false hf
        simp only [Option.getD_some] at this
        omega
      refine ⟨x, b, by rw [List.length_append, List.length_singleton]; omega, fun q hq => ?_, fun q hq => ?_⟩
      · rcases List.mem_append.1 hq with hq | hq
        · exact e q hq
        · rw [List.mem_singleton.1 hq]; exact p1
      · rcases List.mem_append.1 hq with hq | hq
        · exact f q hq
        · rw [List.mem_singleton.1 hq]; exact p2
    · rw [if_neg ei] at q3
      exact g.lk i l' c' k' q1 q2 q3
theorem rdg_app (l : CodeLock) (k : List Clue) (q : Clue) : rdg l (k ++ [q]) = (rdg l k).filter (tr q) := by
  unfold rdg
  rw [List.filter_filter]
  congr 1
  funext c
  rw [List.all_append, Bool.and_comm]
  simp
theorem told_rdgs {r : Riddle} (g : Good r) {a : Aid} (h : hf_ r a = true) (i : Nat) : (fb_ (told r a))[i]? = if i = a.Lock.toNat then ((fb_ r)[i]?).map (·.filter (tr a.Clue)) else (fb_ r)[i]? := by
  obtain ⟨l, c, k, h0, h1, e1, e2, e3, x, b, d, e, f, p1, p2, z⟩ := jx_ g h
  have hk := told_known e3 i
  by_cases ei : i = a.Lock.toNat
  · rw [if_pos ei] at hk ⊢
    subst ei
    rw [z]
    unfold fb_
    rw [zip_get (show (told r a).Locks[a.Lock.toNat]? = some l from e1) hk, rdg_app]
    rfl
  · rw [if_neg ei] at hk ⊢
    unfold fb_
    rw [List.getElem?_zipWith, List.getElem?_zipWith, hk]
    rfl
theorem chkW_mono : ∀ (xs ys : List Nat) (s t : Nat), t ≤ s → ys.length = xs.length → (∀ (i : Nat) x y, xs[i]? = some x → ys[i]? = some y → y ≤ x) → chkW s xs = true → chkW t ys = true
  | [], [], s, t, _, _, _, _ => rfl
  | [], y :: ys, s, t, _, h, _, _ => by simp at h
  | x :: xs, [], s, t, _, h, _, _ => rfl
  | x :: xs, y :: ys, s, t, hst, h, hp, hc => by
    have hyx : y ≤ x := hp 0 x y rfl rfl
    have hm : t * y ≤ s * x := Nat.mul_le_mul hst hyx
    unfold chkW at hc ⊢
    by_cases hb : 20000 < s * x
    · rw [if_pos hb] at hc; cases hc
    · rw [if_neg hb] at hc
      rw [if_neg (by omega)]
      exact chkW_mono xs ys _ _ hm (by simpa using h) (fun i u v hu hv => hp (i + 1) u v (by simpa using hu) (by simpa using hv)) hc
theorem told_fit {r : Riddle} (g : Good r) {a : Aid} (h : hf_ r a = true) (hf : fullR r a = false) (hw : fitW r = true) : fitW (told r a) = true := by
  have g' := jy_ g h hf
  unfold fitW at hw ⊢
  refine chkW_mono _ _ 1 1 (Nat.le_refl _) ?_ ?_ hw
  · unfold lens; rw [List.length_map, List.length_map, hv_ g, hv_ g']; rfl
  · intro i x y hx hy
    unfold lens at hx hy
    rw [List.getElem?_map] at hx hy
    rw [told_rdgs g h i] at hy
    cases hz : (fb_ r)[i]? with
    | none => rw [hz] at hx; cases hx
    | some z =>
      rw [hz] at hx hy
      obtain rfl := Option.some.inj hx
      by_cases ei : i = a.Lock.toNat
      · rw [if_pos ei] at hy
        obtain rfl := Option.some.inj hy
        exact List.length_filter_le _ _
      · rw [if_neg ei] at hy
        obtain rfl := Option.some.inj hy
        exact Nat.le_refl _
theorem st_good {r : Riddle} (g : Good r) (hf : fitW r = true) : st r = 0 := by
  unfold st; rw [okR_iff.2 g, hf]; rfl
theorem ii_ {r : Riddle} {a : Aid} (h : behE r a = 0) : Good r ∧ fitW r = true ∧ hf_ r a = true ∧ fullR r a = false := by
  unfold behE at h
  by_cases hs : st r = 0
  · obtain ⟨g, hf⟩ := os_ hs
    rw [if_pos hs] at h
    cases hv : hf_ r a
    · rw [hv] at h; simp at h
    · cases hu : fullR r a
      · exact ⟨g, hf, rfl, rfl⟩
      · rw [hv, hu] at h; simp at h
  · rw [if_neg hs] at h; exact absurd h hs
theorem told_st {r : Riddle} {a : Aid} (h : behE r a = 0) : st (told r a) = 0 := by
  obtain ⟨g, hf, hv, hu⟩ := ii_ h
  exact st_good (jy_ g hv hu) (told_fit g hv hu hf)
theorem id_ (r : Riddle) (a : Aid) : ex_ r a = some (if behE r a = 0 then (⟨some ⟨r, fb_ r⟩⟩, ⟨some ⟨told r a, fb_ (told r a)⟩⟩, 0) else (⟨none⟩, ⟨none⟩, behE r a)) := by
  have hb : behE r a = if st r = 0 then (if hf_ r a then (if fullR r a then 2 else 0) else 70) else st r := rfl
  unfold ex_
  rw [fd_, Option.bind_some]
  by_cases hs : st r = 0
  · obtain ⟨g, hf⟩ := os_ hs
    rw [if_pos hs] at hb
    simp only [hs]
    rw [if_neg (by simp), ol_ g, Option.bind_some]
    cases hv : hf_ r a
    · rw [hv] at hb
      rw [hb]; rfl
    · obtain ⟨l, c, k, h0, h1, _⟩ := jx_ g hv
      rw [if_neg (by simp), hints_full_eq g h0 h1, Option.bind_some]
      cases hu : fullR r a
      · rw [hv, hu] at hb
        have hb0 : behE r a = 0 := hb
        rw [if_neg (by simp), ml_ g hv, Option.bind_some, fd_, Option.bind_some, told_st hb0, if_pos hb0]
        rfl
      · rw [hv, hu] at hb
        rw [hb]; rfl
  · rw [if_neg hs] at hb
    rw [if_pos (by simpa using hs), hb, if_neg hs, if_neg hs]
theorem hints_Tell_eq (r : Riddle) (a : Aid) : ju_ r a = some (if behE r a = 0 then (told r a, 0) else (⟨[], [], [], []⟩, behE r a)) := by
  unfold ju_
  rw [id_, Option.bind_some]
  by_cases h : behE r a = 0
  · rw [if_pos h, if_pos h, if_neg (by simp), Option.bind_some]
  · rw [if_neg h, if_neg h, if_pos (by simpa using h)]
theorem hints_Leaves_eq (r : Riddle) (a : Aid) : hk_ r a = some (if behE r a = 0 then (((poss (told r a) a.Lock.toNat).length : Int), 0) else (0, behE r a)) := by
  unfold hk_
  rw [id_, Option.bind_some]
  by_cases h : behE r a = 0
  · obtain ⟨g, hf, hv, hu⟩ := ii_ h
    obtain ⟨l, c, k, h0, h1, _⟩ := jx_ g hv
    rw [if_pos h, if_pos h, if_neg (by simp), Option.bind_some, ib_ (jy_ g hv hu), Option.bind_some, fr_ h0 (cntL_get (by show _ < r.Locks.length; omega)), Option.bind_some]
  · rw [if_neg h, if_neg h, if_pos (by simpa using h)]
noncomputable def kk_ (r s : Riddle) (i : Nat) : Bool := decide ((poss s i).length < (poss r i).length)
theorem om_ {r s : Riddle} (g : Good r) (g' : Good s) (hl : s.Locks = r.Locks) : ei_ ⟨r, fb_ r⟩ ⟨s, fb_ s⟩ = some (idxs (kk_ r s) r.Locks.length) := by
  have n8 := g.n8
  unfold ei_
  rw [ib_ g', Option.bind_some, ib_ g, Option.bind_some, cntL_len, forS_pick (p := kk_ r s) (by omega) (by
    intro j q hj
    rw [cf_ (cntL_get hj), Option.bind_some, cf_ (cntL_get (by rw [hl]; exact hj)), Option.bind_some]
    unfold kk_
    by_cases h1 : (poss s j).length < (poss r j).length
    · rw [if_pos (by simp; omega), if_pos (by simp [h1])]
    · rw [if_neg (by simp; omega), if_neg (by simp [h1])]), Option.bind_some]
theorem hints_Spoils_eq (r : Riddle) (a : Aid) : fz_ r a = some (if behE r a = 0 then ((idxs (kk_ r (told r a)) r.Locks.length).filter fun x => !(x == a.Lock), 0) else ([], behE r a)) := by
  unfold fz_
  rw [id_, Option.bind_some]
  by_cases h : behE r a = 0
  · obtain ⟨g, hf, hv, hu⟩ := ii_ h
    have n8 := g.n8
    have := idxs_len (kk_ r (told r a)) r.Locks.length
    rw [if_pos h, if_pos h, if_neg (by simp), Option.bind_some, Option.bind_some, om_ g (jy_ g hv hu) rfl, Option.bind_some, del_eq (f := fun x0_ => jb_ x0_ a) (p := fun x => x == a.Lock) (by omega) (fun x _ => rfl), Option.bind_some]
  · rw [if_neg h, if_neg h, if_pos (by simpa using h)]
end Go.Proofs.Ytlpdpeghgndmkaa.Pad
