/- Whether a clue holds: the program and the reference find the same. -/
import Derived.Test.YtlpdpeghgndmkaaGreatLawZA
set_option linter.unusedVariables false
set_option linter.unusedSimpArgs false
namespace Go.Proofs.YtlpdpeghgndmkaaGreat.Pad
open Go
theorem fg_ {l : CodeLock} {c : List Int} : co_ l c = true ↔ (c.length : Int) = l.Wheels ∧ ∀ n ∈ c, 0 ≤ n ∧ n ≤ l.Symbols - 1 := by
  unfold co_
  rw [Bool.and_eq_true, decide_eq_true_iff, List.all_eq_true]
  exact ⟨fun h => ⟨h.1, fun n hn => ey_.1 (h.2 n hn)⟩, fun h => ⟨h.1, fun n hn => ey_.2 (h.2 n hn)⟩⟩
theorem take_add_one {l : List Int} {j : Nat} {x : Int} (h : l[j]? = some x) : l.take (j + 1) = l.take j ++ [x] := by
  rw [List.take_add_one, h]; rfl
def cnt (l : List Int) (k : Int) : Int := ((l.filter fun x => x == k).length : Int)
theorem cnt_step {l : List Int} {j : Nat} {x k : Int} (h : l[j]? = some x) : cnt (l.take (j + 1)) k = cnt (l.take j) k + if x = k then 1 else 0 := by
  unfold cnt
  rw [take_add_one h, List.filter_append, List.length_append]
  by_cases e : x = k <;> simp [e]
theorem cnt_bd (l : List Int) (k : Int) : 0 ≤ cnt l k ∧ cnt l k ≤ l.length := by
  unfold cnt
  have := List.length_filter_le (fun x => x == k) l
  omega
theorem shown_eq {l : List Int} {k : Int} (hl : l.length ≤ 4) : dq_ l k = some (cnt l k) := by
  unfold dq_
  have := Tot.forS (σ := Int) (k := l.length) (s := 0) (body := fun i1 s1 => (at? l (i1 : Int)).bind fun x4 => if x4 == k then some (w64 (s1 + 1)) else some s1) (fun j s => s = cnt (l.take j) k) (by simp [cnt]) (by
    intro j s hj hI
    refine Tot.bind _ (Tot.atN hj) fun x hx => ?_
    have hc := cnt_bd (l.take j) k
    have hlen : (l.take j).length ≤ 4 := by rw [List.length_take]; omega
    have hst := cnt_step (k := k) hx
    refine Tot.ite (fun h => Tot.pure ?_) (fun h => Tot.pure ?_)
    · have : x = k := by simpa using h
      rw [hst, if_pos this, hI, dz_ (by omega) (by omega)]
    · have : ¬ x = k := by simpa using h
      rw [hst, if_neg this, hI]; omega)
  obtain ⟨r, h1, h2⟩ := this
  rw [List.take_length] at h2
  rw [h2] at h1
  rw [show (forS (σ := Int) (fun i1 s1 => (at? l (i1 : Int)).bind fun x4 => if x4 == k then some (w64 (s1 + 1)) else some s1) l.length 0 0) = some (cnt l k) from h1]
  rfl
theorem answer_eq {l : CodeLock} (hl : Lk l) {code guess : List Int} (hc : co_ l code = true) (hg : co_ l guess = true) : ∃ r, iu_ code guess = some r ∧ iz_ code guess = some r := by
  obtain ⟨c1, c2⟩ := fg_.1 hc
  obtain ⟨g1, g2⟩ := fg_.1 hg
  have w1 := hl.w1; have w2 := hl.w2; have s1 := hl.s1; have s2 := hl.s2
  have hlen : code.length = guess.length := by omega
  have h4 : code.length ≤ 4 := by omega
  let R : Nat → Int := fun j => (List.zip (code.take j) (guess.take j)).foldl (fun s p => if p.1 == p.2 then w64 (s + 1) else s) 0
  have hR : ∀ (j : Nat) (x y : Int), code[j]? = some x → guess[j]? = some y → R (j + 1) = if x == y then w64 (R j + 1) else R j := by
    intro j x y hx hy
    show (List.zip (code.take (j + 1)) (guess.take (j + 1))).foldl _ 0 = _
    have hj := (List.getElem?_eq_some_iff.1 hx).1
    rw [take_add_one hx, take_add_one hy, List.zip_append (by rw [List.length_take, List.length_take]; omega), List.foldl_append]
    rfl
  have hr : Tot (forS (σ := Int) (fun i1 s1 => (at? code (i1 : Int)).bind fun x7 => (at? guess (i1 : Int)).bind fun x8 => if x7 == x8 then some (w64 (s1 + 1)) else some s1) code.length 0 0) (fun s => s = R code.length) :=
    Tot.forS (fun j s => s = R j) rfl (by
      intro j s hj hI
      refine Tot.bind _ (Tot.atN hj) fun x hx => ?_
      refine Tot.bind _ (Tot.atN (l := guess) (by omega)) fun y hy => ?_
      rw [hR j x y hx hy, hI]
      refine Tot.ite (fun h => Tot.pure (by rw [if_pos h])) (fun h => Tot.pure (by rw [if_neg h])))
  have hh : Tot (forS (σ := (Int × List Int × List Int)) (fun i1 s1 =>
      (at? code (i1 : Int)).bind fun x25 =>
      (((at? guess (i1 : Int)).bind fun x27 => if x25 == x27 then (some (w64 (s1.1 + 1))) else (some s1.1)) : Option (Int)).bind fun v4 =>
      (at? s1.2.1 x25).bind fun x28 => (at? s1.2.1 x25).bind fun x29 => (at? guess (i1 : Int)).bind fun x30 => (at? s1.2.2 x30).bind fun x31 => (at? s1.2.2 x30).bind fun x32 =>
      some (v4, s1.2.1.set (x25).toNat (w64 (x28 + 1)), s1.2.2.set (x30).toNat (w64 (x31 + 1)))) code.length 0 (0, List.replicate 10 (0 : Int), List.replicate 10 (0 : Int)))
      (fun s => s.1 = R code.length ∧ s.2.1.length = 10 ∧ s.2.2.length = 10 ∧ ∀ k : Nat, k < 10 → s.2.1[k]? = some (cnt code k) ∧ s.2.2[k]? = some (cnt guess k)) := by
    have := Tot.forS (σ := (Int × List Int × List Int)) (k := code.length) (s := (0, List.replicate 10 (0 : Int), List.replicate 10 (0 : Int))) (body := fun i1 s1 =>
      (at? code (i1 : Int)).bind fun x25 =>
      (((at? guess (i1 : Int)).bind fun x27 => if x25 == x27 then (some (w64 (s1.1 + 1))) else (some s1.1)) : Option (Int)).bind fun v4 =>
      (at? s1.2.1 x25).bind fun x28 => (at? s1.2.1 x25).bind fun x29 => (at? guess (i1 : Int)).bind fun x30 => (at? s1.2.2 x30).bind fun x31 => (at? s1.2.2 x30).bind fun x32 =>
      some (v4, s1.2.1.set (x25).toNat (w64 (x28 + 1)), s1.2.2.set (x30).toNat (w64 (x31 + 1))))
      (fun j s => s.1 = R j ∧ s.2.1.length = 10 ∧ s.2.2.length = 10 ∧ ∀ k : Nat, k < 10 → s.2.1[k]? = some (cnt (code.take j) k) ∧ s.2.2[k]? = some (cnt (guess.take j) k)) (by
        refine ⟨rfl, rfl, rfl, fun k hk => ?_⟩
        have hz : (List.replicate 10 (0 : Int))[k]? = some 0 := by rw [List.getElem?_replicate, if_pos hk]
        exact ⟨hz.trans (by simp [cnt]), hz.trans (by simp [cnt])⟩) (by
        rintro j ⟨a, b, c⟩ hj ⟨hI1, hI2, hI3, hI4⟩
        simp only at hI1 hI2 hI3 hI4
        refine Tot.bind _ (Tot.atN hj) fun x hx => ?_
        have hgj : j < guess.length := by omega
        have hy0 : guess[j]? = some guess[j] := List.getElem?_eq_getElem hgj
        generalize guess[j] = y at hy0
        have hya : at? guess (j : Int) = some y := by rw [pc_]; exact hy0
        have hx' := c2 x (List.mem_of_getElem? hx)
        have hy' := g2 y (List.mem_of_getElem? hy0)
        rw [hya]
        simp only [Option.bind_some]
        refine Tot.bind (fun v => v = R (j + 1)) ?_ fun v hv => ?_
        · rw [hR j x y hx hy0, ← hI1]
          refine Tot.ite (fun h => Tot.pure (by rw [if_pos h])) (fun h => Tot.pure (by rw [if_neg h]))
        have ax : at? b x = some (cnt (code.take j) x) := by
          have := (hI4 x.toNat (by omega)).1
          rw [show ((x.toNat : Nat) : Int) = x by omega] at this
          exact fe_ (by omega) this
        have ay : at? c y = some (cnt (guess.take j) y) := by
          have := (hI4 y.toNat (by omega)).2
          rw [show ((y.toNat : Nat) : Int) = y by omega] at this
          exact fe_ (by omega) this
        rw [ax]
        simp only [Option.bind_some]
        rw [ay]
        simp only [Option.bind_some]
        have b1 := cnt_bd (code.take j) x
        have b2 := cnt_bd (guess.take j) y
        rw [List.length_take] at b1 b2
        rw [dz_ (n := cnt (code.take j) x + 1) (by omega) (by omega), dz_ (n := cnt (guess.take j) y + 1) (by omega) (by omega)]
        refine Tot.pure ⟨hv, by simp [hI2], by simp [hI3], fun k hk => ?_⟩
        have q1 := cnt_step (k := (k : Int)) hx
        have q2 := cnt_step (k := (k : Int)) hy0
        obtain ⟨p1, p2⟩ := hI4 k hk
        constructor
        · rw [q1, List.getElem?_set]
          by_cases e : x.toNat = k
          · rw [if_pos e, if_pos (by omega), if_pos (by omega)]
            rw [show x = (k : Int) by omega]
          · rw [if_neg e, if_neg (by omega), p1]; simp
        · rw [q2, List.getElem?_set]
          by_cases e : y.toNat = k
          · rw [if_pos e, if_pos (by omega), if_pos (by omega)]
            rw [show y = (k : Int) by omega]
          · rw [if_neg e, if_neg (by omega), p2]; simp)
    obtain ⟨s, h1, h2, h3, h5, h6⟩ := this
    refine ⟨s, h1, h2, h3, h5, fun k hk => ?_⟩
    have := h6 k hk
    rw [List.take_length, hlen, List.take_length] at this
    exact this
  obtain ⟨r, r1, r2⟩ := hr
  obtain ⟨s, e1, e2, e3, e4, e5⟩ := hh
  subst r2
  have hsum : Tot (forS (σ := Int) (fun i2 s2 => (dq_ code (i2 : Int)).bind fun x16 => (dq_ guess (i2 : Int)).bind fun x17 => some (w64 (s2 + (pe_ x16 x17)))) 10 0 0) (fun t =>
      forS (σ := Int) (fun i2 s2 => (at? s.2.1 (i2 : Int)).bind fun x40 => (at? s.2.2 (i2 : Int)).bind fun x41 => some (w64 (s2 + (pe_ x40 x41)))) 10 0 0 = some t) := by
    have e : ∀ (m i : Nat) (t : Int), i + m ≤ 10 → forS (σ := Int) (fun i2 s2 => (dq_ code (i2 : Int)).bind fun x16 => (dq_ guess (i2 : Int)).bind fun x17 => some (w64 (s2 + (pe_ x16 x17)))) m i t =
        forS (σ := Int) (fun i2 s2 => (at? s.2.1 (i2 : Int)).bind fun x40 => (at? s.2.2 (i2 : Int)).bind fun x41 => some (w64 (s2 + (pe_ x40 x41)))) m i t ∧ ∃ u, forS (σ := Int) (fun i2 s2 => (at? s.2.1 (i2 : Int)).bind fun x40 => (at? s.2.2 (i2 : Int)).bind fun x41 => some (w64 (s2 + (pe_ x40 x41)))) m i t = some u := by
      intro m
      induction m with
      | zero => intro i t _; exact ⟨rfl, t, rfl⟩
      | succ m ih =>
        intro i t hi
        obtain ⟨p1, p2⟩ := e5 i (by omega)
        simp only [forS]
        rw [shown_eq h4, shown_eq (by omega), pc_, pc_, p1, p2]
        simp only [Option.bind_some]
        exact ih (i + 1) _ (by omega)
    obtain ⟨q1, u, q2⟩ := e 10 0 0 (by omega)
    exact ⟨u, q1.trans q2, q2⟩
  obtain ⟨t, t1, t2⟩ := hsum
  refine ⟨(R code.length, w64 (t - R code.length)), ?_, ?_⟩
  · unfold iu_
    rw [show (forS (σ := Int) (fun i1 s1 => (at? code (i1 : Int)).bind fun x7 => (at? guess (i1 : Int)).bind fun x8 => if x7 == x8 then some (w64 (s1 + 1)) else some s1) code.length 0 0) = some (R code.length) from r1, Option.bind_some, cnt?_le (by omega), Option.bind_some]
    exact (congrArg (fun o => Option.bind o _) t1).trans rfl
  · unfold iz_
    refine (congrArg (fun o => Option.bind o _) e1).trans ?_
    rw [Option.bind_some, cnt?_le (by omega), Option.bind_some]
    refine (congrArg (fun o => Option.bind o _) t2).trans ?_
    rw [Option.bind_some, e2]
theorem holds_eq {l : CodeLock} (hl : Lk l) {c : Clue} {code : List Int} (hc : db_ l c = true) (hk : co_ l code = true) : ∃ b, ga_ c code = some b ∧ fy_ c code = some b := by
  obtain ⟨c1, c2⟩ := fg_.1 hk
  have w1 := hl.w1; have w2 := hl.w2; have s1 := hl.s1; have s2 := hl.s2
  unfold db_ at hc
  have hat : ∀ i, wi i 0 (l.Wheels - 1) = true → ∃ x, at? code i = some x := by
    intro i hi
    obtain ⟨a, b⟩ := ey_.1 hi
    obtain ⟨x, h1, _⟩ := at?_int (l := code) (i := i) a (by omega)
    exact ⟨x, h1⟩
  unfold ga_ fy_ mf_
  by_cases h1 : c.Kind = 1
  · simp only [h1, if_true, Bool.and_eq_true] at hc
    obtain ⟨x, hx⟩ := hat _ hc.1
    exact ⟨_, by simp [h1, hx]; rfl, by simp [h1, hx]⟩
  by_cases h2 : c.Kind = 2
  · simp only [h2, if_true, Bool.and_eq_true, show ¬ ((2 : Int) = 1) by omega, if_false] at hc
    obtain ⟨hA, hB, hAB, _⟩ := hc
    obtain ⟨a1, a2⟩ := ey_.1 hA
    obtain ⟨b1, b2⟩ := ey_.1 hB
    have hab : c.A ≤ c.B := by simpa using hAB
    let sub := (code.take (c.B + 1).toNat).drop c.A.toNat
    have hsub : sub? code c.A (w64 (c.B + 1)) = some sub := by
      rw [dz_ (by omega) (by omega)]
      unfold sub?
      rw [if_pos ⟨a1, by omega, by omega⟩]
    have hsl : sub.length = (c.B - c.A + 1).toNat := by
      show ((code.take (c.B + 1).toNat).drop c.A.toNat).length = _
      rw [List.length_drop, List.length_take]; omega
    have hsg : ∀ j : Nat, j < sub.length → sub[j]? = code[c.A.toNat + j]? := by
      intro j hj
      show ((code.take (c.B + 1).toNat).drop c.A.toNat)[j]? = _
      rw [List.getElem?_drop, List.getElem?_take, if_pos (by omega)]
    let R : Nat → Int := fun j => (sub.take j).foldl (fun s x => w64 (s + x)) 0
    have hR : ∀ (j : Nat) (x : Int), sub[j]? = some x → R (j + 1) = w64 (R j + x) := by
      intro j x hx
      show (sub.take (j + 1)).foldl _ 0 = _
      rw [take_add_one hx, List.foldl_append]; rfl
    have f1 : Tot (forS (σ := Int) (fun i1 s1 => (at? sub (i1 : Int)).bind fun x6 => some (w64 (s1 + x6))) sub.length 0 0) (fun s => s = R sub.length) :=
      Tot.forS (fun j s => s = R j) rfl (by
        intro j s hj hI
        refine Tot.bind _ (Tot.atN hj) fun x hx => Tot.pure ?_
        rw [hR j x hx, hI])
    have f2 := lf_ (σ := Int × Int) (ρ := Int × Int) (body := fun s1 => if decide (s1.2 ≤ c.B) then (at? code s1.2).bind fun x8 => some (Sum.inl (w64 (s1.1 + x8), w64 (s1.2 + 1))) else some (Sum.inr (s1.1, s1.2)))
      (fun j st => st = (R j, c.A + j)) (fun r => r.1 = R sub.length) sub.length 0 (0, c.A) (by simp [R]) (by
        rintro j st _ hj rfl
        have hx : sub[j]? = some sub[j] := List.getElem?_eq_getElem (by omega)
        generalize sub[j]'(by omega) = x at hx
        refine .inl ⟨_, ?_, rfl⟩
        have hcx : at? code (c.A + j) = some x := fe_ (by omega) (by rw [show (c.A + (j : Int)).toNat = c.A.toNat + j by omega, ← hsg j (by omega)]; exact hx)
        simp only
        rw [if_pos (by simp; omega), hcx, hR j x hx, dz_ (n := c.A + ↑j + 1) (by omega) (by omega)]
        simp only [Option.bind_some]
        congr 3
        omega) (by
        rintro st rfl
        refine ⟨(R (0 + sub.length), c.A + ((0 + sub.length : Nat) : Int)), ?_, ?_⟩
        · simp only
          rw [if_neg (by simp; omega)]
        · simp)
    obtain ⟨o, o1, o2⟩ := f2
    obtain ⟨s, q1, q2⟩ := f1
    refine ⟨(o.1 == c.N) != c.Not, ?_, ?_⟩
    · rw [if_neg (by simp [h2]), if_pos (by simp [h2])]
      exact (congrArg (fun z => Option.bind z _) o1).trans rfl
    · rw [if_neg (by simp [h2]), if_pos (by simp [h2]), hsub, Option.bind_some]
      rw [show (forS (σ := Int) (fun i1 s1 => (at? sub (i1 : Int)).bind fun x6 => some (w64 (s1 + x6))) sub.length 0 0) = some s from q1, Option.bind_some, Option.bind_some, q2, o2]
  by_cases h3 : c.Kind = 3
  · simp only [h3, if_true, Bool.and_eq_true, show ¬ ((3 : Int) = 1) by omega, show ¬ ((3 : Int) = 2) by omega, if_false, true_or] at hc
    obtain ⟨x, hx⟩ := hat _ hc.1
    obtain ⟨y, hy⟩ := hat _ hc.2.1
    exact ⟨_, by simp [h3, hx, hy]; rfl, by simp [h3, hx, hy]⟩
  by_cases h4 : c.Kind = 4
  · simp only [h4, if_true, Bool.and_eq_true, show ¬ ((4 : Int) = 1) by omega, show ¬ ((4 : Int) = 2) by omega, if_false, or_true] at hc
    obtain ⟨x, hx⟩ := hat _ hc.1
    obtain ⟨y, hy⟩ := hat _ hc.2.1
    exact ⟨_, by simp [h4, hx, hy]; rfl, by simp [h4, hx, hy]⟩
  by_cases h5 : c.Kind = 5
  · have hs := shown_eq (k := c.N) (l := code) (by omega)
    have hs2 : (forS (σ := Int) (fun i2 s2 => (at? code (i2 : Int)).bind fun x14 => if x14 == c.N then some (w64 (s2 + 1)) else some s2) code.length 0 0) = some (cnt code c.N) := by
      have h := hs
      unfold dq_ at h
      obtain ⟨y, h6, h7⟩ := bnd h
      rw [Option.some.inj h7] at h6
      exact h6
    refine ⟨(cnt code c.N == c.M) != c.Not, ?_, ?_⟩
    · rw [if_neg (by simp [h5]), if_neg (by simp [h5]), if_neg (by simp [h5]), if_neg (by simp [h5]), if_pos (by simp [h5]), hs]; rfl
    · rw [if_neg (by simp [h5]), if_neg (by simp [h5]), if_neg (by simp [h5]), if_neg (by simp [h5]), if_pos (by simp [h5])]
      rw [show (forS (σ := Int) (fun i2 s2 => (at? code (i2 : Int)).bind fun x14 => if x14 == c.N then some (w64 (s2 + 1)) else some s2) code.length 0 0) = some (cnt code c.N) from hs2]
      rfl
  by_cases h6 : c.Kind = 6
  · simp only [h6, if_true, Bool.and_eq_true, show ¬ ((6 : Int) = 1) by omega, show ¬ ((6 : Int) = 2) by omega, show ¬ ((6 : Int) = 3 ∨ (6 : Int) = 4) by omega, show ¬ ((6 : Int) = 5) by omega, if_false] at hc
    obtain ⟨r, r1, r2⟩ := answer_eq hl hk hc.1
    refine ⟨(if r.1 == c.N then r.2 == c.M else false) != c.Not, ?_, ?_⟩
    · rw [if_neg (by simp [h6]), if_neg (by simp [h6]), if_neg (by simp [h6]), if_neg (by simp [h6]), if_neg (by simp [h6]), if_pos (by simp [h6]), r1, Option.bind_some]
      cases r.1 == c.N <;> rfl
    · rw [if_neg (by simp [h6]), if_neg (by simp [h6]), if_neg (by simp [h6]), if_neg (by simp [h6]), if_neg (by simp [h6]), if_pos (by simp [h6]), r2, Option.bind_some]
      cases r.1 == c.N <;> rfl
  by_cases h7 : c.Kind = 7
  · simp only [h7, if_true, Bool.and_eq_true, show ¬ ((7 : Int) = 1) by omega, show ¬ ((7 : Int) = 2) by omega, show ¬ ((7 : Int) = 3 ∨ (7 : Int) = 4) by omega, show ¬ ((7 : Int) = 5) by omega, show ¬ ((7 : Int) = 6) by omega, if_false] at hc
    obtain ⟨x, hx⟩ := hat _ hc.1
    obtain ⟨n1, n2⟩ := ey_.1 hc.2.1
    have hm : md x c.N = some (x.tmod c.N) := md_pos (by omega)
    exact ⟨_, by simp [h7, hx, hm]; rfl, by simp [h7, hx, hm]⟩
  · simp [h1, h2, h3, h4, h5, h6, h7] at hc
end Go.Proofs.YtlpdpeghgndmkaaGreat.Pad
