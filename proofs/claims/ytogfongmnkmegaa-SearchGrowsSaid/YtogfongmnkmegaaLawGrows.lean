/- SearchGrows. -/
import Derived.Test.YtogfongmnkmegaaLawChances
set_option linter.unusedVariables false
namespace Go.Proofs.Ytogfongmnkmegaa.Pad
open Go Go.Proofs

section
variable {g : Graph} {d : List Int}
/-! ## Scaling -/
def scale (c : Nat) (l : List Int) : List Int := l.map (fun x => (c : Int) * x)
theorem scale_ix (c : Nat) (l : List Int) (q : Int) : ix 0 (scale c l) q = (c : Int) * ix 0 l q := by
  unfold ix scale
  rw [List.getElem?_map]
  cases l[q.toNat]? <;> simp
theorem scale_add (c : Nat) (l : List Int) (q x : Int) : scale c (addTo l q x) = addTo (scale c l) q ((c : Int) * x) := by
  unfold addTo
  rw [scale_ix, ← Int.mul_add]
  unfold scale
  rw [List.map_set]
theorem scale_spread (c : Nat) (x : Int) (row : List Edge) : ∀ acc, scale c (spread row x acc) = spread row ((c : Int) * x) (scale c acc) := by
  induction row with
  | nil => intro acc; rfl
  | cons e row ih =>
    intro acc
    show scale c (spread row x (addTo acc e.To x)) = spread row _ (addTo (scale c acc) e.To _)
    rw [ih, scale_add]
theorem scale_round (hg : GoodMap g d) {C u c : Nat} (hC : DivAll g.Edges d C) {l : List Int} (hl : MassOk g.Edges.length (C * u) l) : roundM g.Edges d (scale c l) = scale c (roundM g.Edges d l) := by
  unfold roundM
  suffices h : ∀ j, j ≤ g.Edges.length → (List.range j).foldl (posStep g.Edges d (scale c l)) (List.replicate g.Edges.length 0) = scale c ((List.range j).foldl (posStep g.Edges d l) (List.replicate g.Edges.length 0)) from h _ (Nat.le_refl _)
  intro j
  induction j with
  | zero => intro _; simp [scale]
  | succ j ih =>
    intro hj
    rw [List.range_succ, foldl_snoc, foldl_snoc, ih (by omega)]
    generalize (List.range j).foldl (posStep g.Edges d l) (List.replicate g.Edges.length 0) = acc
    unfold posStep
    rw [scale_ix]
    cases hs : stays g.Edges d j with
    | true => rw [if_pos rfl, if_pos rfl, scale_add]
    | false =>
      have ⟨_, h0⟩ := stays_false hs
      have hlp := hl.ix (q := (j : Int)) (by omega) (by omega)
      have ⟨_, _, q3⟩ := quot_ok h0 (hC j (by omega) hs) hlp.1 hlp.2.2
      rw [if_neg (by simp), if_neg (by simp), scale_spread]
      congr 1
      have hlen : ((rowOf g.Edges (j : Int)).length : Int) ≠ 0 := by omega
      generalize ix 0 l (j : Int) / ((rowOf g.Edges (j : Int)).length : Int) = y at q3
      rw [← q3, Int.mul_left_comm, Int.mul_ediv_cancel_left _ hlen]
theorem scale_start (c : Nat) (n : Nat) (a : Nat) : scale c (start n ((a : Nat) : Int)) = start n ((c * a : Nat) : Int) := by
  unfold scale start
  rw [List.map_set]
  simp
theorem scale_rounds (hg : GoodMap g d) {C k : Nat} (hC : DivAll g.Edges d C) : ∀ j, j ≤ k → roundsM g.Edges d (start g.Edges.length ((C ^ (k + 1) : Nat) : Int)) j = scale C (roundsM g.Edges d (start g.Edges.length ((C ^ k : Nat) : Int)) j) := by
  intro j
  induction j with
  | zero =>
    intro _
    show start _ _ = scale C (start _ _)
    rw [scale_start, Nat.pow_succ, Nat.mul_comm]
  | succ j ih =>
    intro hj
    have ⟨a, b⟩ := rounds_ok (C := C) (k := k) hg (fun _ => hC) j (by omega)
    rw [show k - j = (k - (j + 1)) + 1 by omega, Nat.pow_succ, Nat.mul_comm] at a
    rw [roundsM_succ, roundsM_succ, ih (by omega), scale_round hg hC a]
theorem finOf_scale (c : Nat) (l : List Int) (j : Nat) : finOf d (scale c l) j = (c : Int) * finOf d l j := by
  induction j with
  | zero => simp [finOf]
  | succ j ih =>
    rw [finOf_succ, finOf_succ, ih, Int.mul_add, scale_ix]
    congr 1
    split
    · rfl
    · simp

/-! ## What is finished stays so -/
theorem finOf_add {l : List Int} {n : Nat} (hl : l.length = n) {q x : Int} (h0 : 0 ≤ q) (h1 : q < n) : ∀ j, j ≤ n → finOf d (addTo l q x) j = finOf d l j + if q < j ∧ dA d q = 0 then x else 0 := by
  intro j
  induction j with
  | zero => intro _; rw [if_neg (by omega)]; simp [finOf]
  | succ j ih =>
    intro hj
    rw [finOf_succ, finOf_succ, ih (by omega), addTo_ix x h0 (by omega) (by omega)]
    by_cases e : (j : Int) = q
    · subst e
      repeat' split
      all_goals omega
    · repeat' split
      all_goals omega
theorem finOf_spread {n : Nat} {x : Int} (hx : 0 ≤ x) (row : List Edge) (hr : ∀ e ∈ row, 0 ≤ e.To ∧ e.To < n) : ∀ acc : List Int, acc.length = n → (spread row x acc).length = n ∧ finOf d acc n ≤ finOf d (spread row x acc) n := by
  induction row with
  | nil => intro acc h; exact ⟨h, Int.le_refl _⟩
  | cons e row ih =>
    intro acc h
    have he := hr e (by simp)
    have h1 := finOf_add (d := d) (x := x) h he.1 he.2 n (Nat.le_refl _)
    have ⟨h2, h3⟩ := ih (fun e he => hr e (by simp [he])) (addTo acc e.To x) (by rw [addTo_len]; exact h)
    refine ⟨h2, ?_⟩
    show _ ≤ finOf d (spread row x (addTo acc e.To x)) n
    split at h1 <;> omega
theorem finOf_round (hg : GoodMap g d) {C u : Nat} (hC : DivAll g.Edges d C) {l : List Int} (hl : MassOk g.Edges.length (C * u) l) : finOf d l g.Edges.length ≤ finOf d (roundM g.Edges d l) g.Edges.length := by
  have hel := hg.el; have hdl := hg.dl
  unfold roundM
  suffices h : ∀ j, j ≤ g.Edges.length → finOf d l j ≤ finOf d ((List.range j).foldl (posStep g.Edges d l) (List.replicate g.Edges.length 0)) g.Edges.length from h _ (Nat.le_refl _)
  intro j
  induction j with
  | zero =>
    intro hj
    have := (finOf_ok (d := d) (MassOk.zero g.Edges.length 1) g.Edges.length (Nat.le_refl _)).1
    show finOf d l 0 ≤ finOf d (List.replicate g.Edges.length 0) g.Edges.length
    simpa [finOf] using this
  | succ j ih =>
    intro hj
    have h1 := ih (by omega)
    have ⟨ha, _⟩ := round_ok hg hC hl j (by omega)
    rw [List.range_succ, foldl_snoc, finOf_succ]
    generalize (List.range j).foldl (posStep g.Edges d l) (List.replicate g.Edges.length 0) = acc at h1 ha
    have hlp := hl.ix (q := (j : Int)) (by omega) (by omega)
    unfold posStep
    cases hs : stays g.Edges d j with
    | true =>
      rw [if_pos rfl]
      have := finOf_add (d := d) (x := ix 0 l (j : Int)) ha.len (q := (j : Int)) (by omega) (by omega) g.Edges.length (Nat.le_refl _)
      rw [this]
      by_cases hd : dA d (j : Int) = 0
      · rw [if_pos hd, if_pos ⟨by omega, hd⟩]; omega
      · rw [if_neg hd, if_neg (fun h => hd h.2)]; omega
    | false =>
      have ⟨hd, h0⟩ := stays_false hs
      have ⟨q1, _, _⟩ := quot_ok h0 (hC j (by omega) hs) hlp.1 hlp.2.2
      rw [if_neg hd, if_neg Bool.false_ne_true]
      have := (finOf_spread (d := d) q1 (rowOf g.Edges (j : Int)) (fun e he => by have := hg.to (p := (j : Int)) (by omega) he; omega) acc ha.len).2
      omega

/-! ## Where a part can be -/
theorem spread_mono {n u : Nat} {x : Int} (hx : 0 ≤ x) (hd : (u : Int) ∣ x) (row : List Edge) (hr : ∀ e ∈ row, 0 ≤ e.To ∧ e.To < n) : ∀ acc, MassOk n u acc → ∀ q : Int, 0 ≤ q → q < n → ix 0 acc q ≤ ix 0 (spread row x acc) q ∧ (∀ e ∈ row, e.To = q → x ≤ ix 0 (spread row x acc) q) ∧ (0 < ix 0 (spread row x acc) q → 0 < ix 0 acc q ∨ (0 < x ∧ ∃ e ∈ row, e.To = q)) := by
  induction row with
  | nil => intro acc h q q0 q1; exact ⟨Int.le_refl _, by simp, fun h => .inl h⟩
  | cons e row ih =>
    intro acc h q q0 q1
    have he := hr e (by simp)
    have h1 := h.add he.1 he.2 hx hd
    have hacc := h.ix he.1 he.2
    have ⟨a, b, c⟩ := ih (fun e he => hr e (by simp [he])) _ h1 q q0 q1
    have hix := addTo_ix (l := acc) x he.1 (by rw [h.len]; exact he.2) q0
    refine ⟨?_, ?_, ?_⟩
    · show _ ≤ ix 0 (spread row x (addTo acc e.To x)) q
      by_cases hq : q = e.To
      · rw [if_pos hq] at hix; rw [hq] at a hix ⊢; omega
      · rw [if_neg hq] at hix; omega
    · intro e' he' hq
      show _ ≤ ix 0 (spread row x (addTo acc e.To x)) q
      rcases List.mem_cons.1 he' with rfl | he'
      · rw [if_pos hq.symm] at hix; omega
      · exact b e' he' hq
    · intro hpos
      rcases c hpos with h2 | ⟨h2, e', he', h3⟩
      · rw [hix] at h2
        by_cases hq : q = e.To
        · rw [if_pos hq] at h2
          by_cases hx0 : 0 < x
          · exact .inr ⟨hx0, e, by simp, hq.symm⟩
          · left; rw [hq]; omega
        · rw [if_neg hq] at h2; exact .inl h2
      · exact .inr ⟨h2, e', by simp [he'], h3⟩
theorem posStep_pos (hg : GoodMap g d) {C u : Nat} (hC : DivAll g.Edges d C) {l : List Int} (hl : MassOk g.Edges.length (C * u) l) {p : Nat} (hp : p < g.Edges.length) {acc : List Int} (ha : MassOk g.Edges.length u acc) {q : Int} (q0 : 0 ≤ q) (q1 : q < g.Edges.length) :
    ix 0 acc q ≤ ix 0 (posStep g.Edges d l acc p) q ∧
    (0 < ix 0 l (p : Int) → (stays g.Edges d p = true ∧ q = p ∨ stays g.Edges d p = false ∧ ∃ e ∈ rowOf g.Edges (p : Int), e.To = q) → 0 < ix 0 (posStep g.Edges d l acc p) q) ∧
    (0 < ix 0 (posStep g.Edges d l acc p) q → 0 < ix 0 acc q ∨ (0 < ix 0 l (p : Int) ∧ (q = p ∨ (dA d (p : Int) ≠ 0 ∧ ∃ e ∈ rowOf g.Edges (p : Int), e.To = q)))) := by
  have hel := hg.el; have hdl := hg.dl
  have hlp := hl.ix (q := (p : Int)) (by omega) (by omega)
  have hacc := ha.ix q0 q1
  unfold posStep
  cases hs : stays g.Edges d p with
  | true =>
    rw [if_pos rfl]
    have hix := addTo_ix (l := acc) (ix 0 l (p : Int)) (q := (p : Int)) (by omega) (by rw [ha.len]; omega) q0
    rw [hix]
    by_cases e : q = p
    · rw [if_pos e, ← e]
      refine ⟨by rw [e]; omega, fun h _ => by omega, fun h => ?_⟩
      by_cases h2 : 0 < ix 0 acc q
      · exact .inl h2
      · exact .inr ⟨by omega, .inl rfl⟩
    · rw [if_neg e]
      refine ⟨Int.le_refl _, fun _ h => ?_, fun h => .inl h⟩
      rcases h with ⟨_, h⟩ | ⟨h, _⟩
      · exact (e h).elim
      · cases h
  | false =>
    have ⟨hd, h0⟩ := stays_false hs
    have ⟨x1, x2, x3⟩ := quot_ok h0 (hC p hp hs) hlp.1 hlp.2.2
    rw [if_neg (by simp)]
    have ⟨a, b, c⟩ := spread_mono (n := g.Edges.length) x1 x2 (rowOf g.Edges (p : Int)) (fun e he => by have := hg.to (p := (p : Int)) (by omega) he; omega) acc ha q q0 q1
    have hxpos : 0 < ix 0 l (p : Int) → 0 < ix 0 l (p : Int) / ((rowOf g.Edges (p : Int)).length : Int) := by
      intro h
      apply Classical.byContradiction
      intro hn
      have : ix 0 l (p : Int) / ((rowOf g.Edges (p : Int)).length : Int) = 0 := by omega
      rw [this, Int.mul_zero] at x3; omega
    refine ⟨a, fun h h2 => ?_, fun h => ?_⟩
    · rcases h2 with ⟨h2, _⟩ | ⟨_, e, he, h3⟩
      · cases h2
      · have := b e he h3
        have := hxpos h; omega
    · rcases c h with h2 | ⟨h2, e, he, h3⟩
      · exact .inl h2
      · refine .inr ⟨?_, .inr ⟨hd, e, he, h3⟩⟩
        apply Classical.byContradiction
        intro hn
        have : ix 0 l (p : Int) = 0 := by omega
        rw [this] at h2; simp at h2
theorem round_pos (hg : GoodMap g d) {C u : Nat} (hC : DivAll g.Edges d C) {l : List Int} (hl : MassOk g.Edges.length (C * u) l) {q : Int} (q0 : 0 ≤ q) (q1 : q < g.Edges.length) : ∀ j, j ≤ g.Edges.length →
    (∀ p : Nat, p < j → 0 < ix 0 l (p : Int) → (stays g.Edges d p = true ∧ q = p ∨ stays g.Edges d p = false ∧ ∃ e ∈ rowOf g.Edges (p : Int), e.To = q) → 0 < ix 0 ((List.range j).foldl (posStep g.Edges d l) (List.replicate g.Edges.length 0)) q) ∧
    (0 < ix 0 ((List.range j).foldl (posStep g.Edges d l) (List.replicate g.Edges.length 0)) q → ∃ p : Nat, p < j ∧ 0 < ix 0 l (p : Int) ∧ (q = p ∨ (dA d (p : Int) ≠ 0 ∧ ∃ e ∈ rowOf g.Edges (p : Int), e.To = q))) := by
  intro j
  induction j with
  | zero =>
    intro _
    refine ⟨fun p h => by omega, fun h => ?_⟩
    have := (MassOk.zero g.Edges.length 1).ix q0 q1
    have hs : (List.replicate g.Edges.length (0 : Int)).sum = 0 := by simp
    simp only [List.range_zero, List.foldl_nil] at h
    omega
  | succ j ih =>
    intro hj
    obtain ⟨i1, i2⟩ := ih (by omega)
    have ⟨ha, _⟩ := round_ok hg hC hl j (by omega)
    rw [List.range_succ, foldl_snoc]
    obtain ⟨a, b, c⟩ := posStep_pos hg hC hl (p := j) (by omega) ha q0 q1
    refine ⟨fun p hp h1 h2 => ?_, fun h => ?_⟩
    · by_cases e : p = j
      · subst e; exact b h1 h2
      · have := i1 p (by omega) h1 h2; omega
    · rcases c h with h | ⟨h1, h2⟩
      · obtain ⟨p, hp, h3⟩ := i2 h
        exact ⟨p, by omega, h3⟩
      · exact ⟨j, by omega, h1, h2⟩
theorem start_ix (n : Nat) (hn : 0 < n) (a : Int) (q : Int) (q0 : 0 ≤ q) (q1 : q < n) : ix 0 (start n a) q = if q = 0 then a else 0 := by
  unfold start
  rw [ix_set' 0 _ 0 q a (by omega) (by simpa using hn) q0]
  congr 1
  have := ix_nat (0 : Int) (l := List.replicate n (0 : Int)) (i := q.toNat) (by simp; omega)
  rw [show ((q.toNat : Nat) : Int) = q by omega] at this
  rw [this]; simp
theorem edge_dist (hg : GoodMap g d) {p : Int} (hp : 0 ≤ p ∧ p < g.Edges.length) {e : Edge} (he : e ∈ rowOf g.Edges p) (h : 0 ≤ dA d e.To) : 0 ≤ dA d p ∧ dA d p ≤ dA d e.To + 1 := by
  have hel := hg.el
  have hw := hg.dist p.toNat (by omega)
  rw [show ((p.toNat : Nat) : Int) = p by omega] at hw
  rcases hw with hw | ⟨hw, _⟩ | ⟨e', _, a, b, c⟩
  · omega
  · have := hw _ he; omega
  · have := c _ he h; omega
theorem rounds_pos (hg : GoodMap g d) {C k : Nat} (hC0 : 1 ≤ C) (hC : 0 < k → DivAll g.Edges d C) : ∀ j, j ≤ k →
    (∀ q : Int, 0 ≤ q → q < g.Edges.length → 0 < ix 0 (roundsM g.Edges d (start g.Edges.length ((C ^ k : Nat) : Int)) j) q → 0 ≤ dA d q → 0 ≤ dA d 0 ∧ dA d 0 ≤ dA d q + j) ∧
    (0 ≤ dA d 0 → ∃ q : Int, 0 ≤ q ∧ q < g.Edges.length ∧ 0 < ix 0 (roundsM g.Edges d (start g.Edges.length ((C ^ k : Nat) : Int)) j) q ∧ 0 ≤ dA d q ∧ (dA d q = 0 ∨ dA d q = dA d 0 - j)) := by
  have hel := hg.el; have hn1 := hg.n1; have hdl := hg.dl
  intro j
  induction j with
  | zero =>
    intro _
    have hCk : 0 < C ^ k := Nat.pow_pos (by omega)
    refine ⟨fun q q0 q1 h hd => ?_, fun h => ⟨0, by omega, by omega, ?_, h, .inr (by simp)⟩⟩
    · change 0 < ix 0 (start g.Edges.length ((C ^ k : Nat) : Int)) q at h
      rw [start_ix _ (by omega) _ _ q0 q1] at h
      by_cases e : q = 0
      · subst e; omega
      · rw [if_neg e] at h; omega
    · change 0 < ix 0 (start g.Edges.length ((C ^ k : Nat) : Int)) 0
      rw [start_ix _ (by omega) _ _ (by omega) (by omega), if_pos rfl]; omega
  | succ j ih =>
    intro hj
    obtain ⟨i1, i2⟩ := ih (by omega)
    have ⟨a, b⟩ := rounds_ok (C := C) (k := k) hg hC j (by omega)
    rw [show k - j = (k - (j + 1)) + 1 by omega, Nat.pow_succ, Nat.mul_comm] at a
    rw [roundsM_succ]
    generalize roundsM g.Edges d (start g.Edges.length ((C ^ k : Nat) : Int)) j = l at i1 i2 a b
    have hCC := hC (by omega)
    refine ⟨fun q q0 q1 h hd => ?_, fun h => ?_⟩
    · obtain ⟨p, hp, h1, h2⟩ := (round_pos hg hCC a q0 q1 g.Edges.length (Nat.le_refl _)).2 h
      rcases h2 with rfl | ⟨_, e, he, rfl⟩
      · have := i1 p (by omega) (by omega) h1 hd; omega
      · have h3 := edge_dist hg (p := (p : Int)) (by omega) he hd
        have := i1 p (by omega) (by omega) h1 h3.1; omega
    · obtain ⟨p, p0, p1, h1, h2, h3⟩ := i2 h
      have hpn : ((p.toNat : Nat) : Int) = p := by omega
      by_cases hd : dA d p = 0
      · refine ⟨p, p0, p1, ?_, h2, .inl hd⟩
        refine (round_pos hg hCC a p0 p1 g.Edges.length (Nat.le_refl _)).1 p.toNat (by omega) (by rw [hpn]; exact h1) (.inl ⟨?_, hpn.symm⟩)
        rw [hpn]; unfold stays; rw [decide_eq_true hd]; rfl
      · obtain ⟨e, he, hn⟩ := hg.down ⟨p0, p1⟩ (by omega)
        have hto := hg.to ⟨p0, p1⟩ he
        unfold nearB at hn
        simp only [Bool.and_eq_true, decide_eq_true_eq] at hn
        refine ⟨e.To, hto.1, by omega, ?_, by omega, by omega⟩
        refine (round_pos hg hCC a hto.1 (by omega) g.Edges.length (Nat.le_refl _)).1 p.toNat (by omega) (by rw [hpn]; exact h1) (.inr ⟨?_, e, by rw [hpn]; exact he, rfl⟩)
        rw [hpn]; unfold stays
        have : (rowOf g.Edges p).length ≠ 0 := by
          intro h0
          rw [List.length_eq_zero_iff.1 h0] at he; cases he
        rw [decide_eq_false hd, decide_eq_false this]; rfl
theorem finOf_pos {n u : Nat} {l : List Int} (hl : MassOk n u l) : ∀ j, j ≤ n → (0 < finOf d l j ↔ ∃ p : Nat, p < j ∧ dA d (p : Int) = 0 ∧ 0 < ix 0 l (p : Int)) := by
  intro j
  induction j with
  | zero => intro _; simp [finOf]
  | succ j ih =>
    intro hj
    have h0 := (finOf_ok (d := d) hl j (by omega)).1
    have h1 := hl.ix (q := (j : Int)) (by omega) (by omega)
    have hi := ih (by omega)
    rw [finOf_succ]
    constructor
    · intro h
      by_cases hp : 0 < finOf d l j
      · obtain ⟨p, a, b⟩ := hi.1 hp
        exact ⟨p, by omega, b⟩
      · by_cases hd : dA d (j : Int) = 0
        · rw [if_pos hd] at h
          exact ⟨j, by omega, hd, by omega⟩
        · rw [if_neg hd] at h; omega
    · rintro ⟨p, a, b, c⟩
      by_cases e : p = j
      · subst e; rw [if_pos b]; omega
      · have := hi.2 ⟨p, by omega, b, c⟩
        split <;> omega
end
end Go.Proofs.Ytogfongmnkmegaa.Pad
