/- Chance: the parts, roundM by roundM. -/
import Derived.Test.YtogfongmnkmegaaLawMaps
set_option linter.unusedVariables false
namespace Go.Proofs.Ytogfongmnkmegaa.Pad
open Go Go.Proofs

def addTo (l : List Int) (q : Int) (x : Int) : List Int := l.set q.toNat (ix 0 l q + x)
theorem addTo_len (l : List Int) (q x : Int) : (addTo l q x).length = l.length := by simp [addTo]
theorem sum_set (l : List Int) (i : Nat) (v : Int) (h : i < l.length) : (l.set i v).sum = l.sum - l[i] + v := by
  induction l generalizing i with
  | nil => simp at h
  | cons a l ih =>
    cases i with
    | zero => simp; omega
    | succ i =>
      simp only [List.set_cons_succ, List.sum_cons, List.getElem_cons_succ]
      rw [ih i (by simpa using h)]; omega
theorem addTo_sum {l : List Int} {q : Int} (x : Int) (h0 : 0 ≤ q) (h : q < l.length) : (addTo l q x).sum = l.sum + x := by
  unfold addTo
  rw [sum_set _ _ _ (by omega)]
  have : ix 0 l q = l[q.toNat]'(by omega) := by
    have := ix_nat 0 (l := l) (i := q.toNat) (by omega)
    rw [show ((q.toNat : Nat) : Int) = q by omega] at this
    exact this
  omega
theorem addTo_ix {l : List Int} {q : Int} (x : Int) (h0 : 0 ≤ q) (h : q < l.length) {r : Int} (hr : 0 ≤ r) : ix 0 (addTo l q x) r = if r = q then ix 0 l q + x else ix 0 l r := ix_set' 0 l q r _ h0 h hr
theorem le_sum {l : List Int} (h : ∀ x ∈ l, 0 ≤ x) : 0 ≤ l.sum ∧ ∀ x ∈ l, x ≤ l.sum := by
  induction l with
  | nil => simp
  | cons a l ih =>
    have ⟨i1, i2⟩ := ih (fun x hx => h x (by simp [hx]))
    have ha := h a (by simp)
    rw [List.sum_cons]
    refine ⟨by omega, fun x hx => ?_⟩
    rcases List.mem_cons.1 hx with rfl | hx
    · omega
    · have := i2 x hx; omega

/-- MassOk that are all divided by u, none below 0. -/
structure MassOk (n : Nat) (u : Nat) (l : List Int) : Prop where
  len : l.length = n
  nn : ∀ x ∈ l, 0 ≤ x
  dv : ∀ x ∈ l, (u : Int) ∣ x
theorem MassOk.ix {n u : Nat} {l : List Int} (h : MassOk n u l) {q : Int} (h0 : 0 ≤ q) (h1 : q < n) : 0 ≤ ix 0 l q ∧ ix 0 l q ≤ l.sum ∧ (u : Int) ∣ ix 0 l q := by
  have hm : Go.Proofs.Ytogfongmnkmegaa.Pad.ix 0 l q ∈ l := ix_mem 0 h0 (by have := h.len; omega)
  exact ⟨h.nn _ hm, (le_sum h.nn).2 _ hm, h.dv _ hm⟩
theorem MassOk.add {n u : Nat} {l : List Int} (h : MassOk n u l) {q x : Int} (h0 : 0 ≤ q) (h1 : q < n) (hx : 0 ≤ x) (hd : (u : Int) ∣ x) : MassOk n u (addTo l q x) := by
  have hq := h.ix h0 h1
  refine ⟨by rw [addTo_len]; exact h.len, ?_, ?_⟩
  · intro y hy
    rcases List.mem_or_eq_of_mem_set hy with hy | rfl
    · exact h.nn y hy
    · omega
  · intro y hy
    rcases List.mem_or_eq_of_mem_set hy with hy | rfl
    · exact h.dv y hy
    · exact Int.dvd_add hq.2.2 hd
theorem MassOk.zero (n u : Nat) : MassOk n u (List.replicate n 0) := by
  refine ⟨by simp, ?_, ?_⟩
  · intro x hx; rw [(List.mem_replicate.1 hx).2]; exact Int.le_refl _
  · intro x hx; rw [(List.mem_replicate.1 hx).2]; exact Int.dvd_zero _

def stays (E : List (List Edge)) (d : List Int) (p : Int) : Bool := decide (dA d p = 0) || decide ((rowOf E p).length = 0)
def spread (row : List Edge) (x : Int) (acc : List Int) : List Int := row.foldl (fun acc e => addTo acc e.To x) acc
def posStep (E : List (List Edge)) (d l : List Int) (acc : List Int) (p : Nat) : List Int :=
  if stays E d p then addTo acc p (ix 0 l p) else spread (rowOf E (p : Int)) (ix 0 l p / ((rowOf E (p : Int)).length : Int)) acc
def roundM (E : List (List Edge)) (d l : List Int) : List Int := (List.range E.length).foldl (posStep E d l) (List.replicate E.length 0)

section
variable {g : Graph} {d : List Int}
/-- The number of edges of each position that is left divides C. -/
def DivAll (E : List (List Edge)) (d : List Int) (C : Nat) : Prop := ∀ p : Nat, p < E.length → stays E d p = false → (rowOf E (p : Int)).length ∣ C
theorem spread_ok {n u : Nat} {x : Int} (hx : 0 ≤ x) (hd : (u : Int) ∣ x) (row : List Edge) (hr : ∀ e ∈ row, 0 ≤ e.To ∧ e.To < n) : ∀ acc, MassOk n u acc → MassOk n u (spread row x acc) ∧ (spread row x acc).sum = acc.sum + row.length * x := by
  induction row with
  | nil => intro acc h; exact ⟨h, by simp [spread]⟩
  | cons e row ih =>
    intro acc h
    have he := hr e (by simp)
    have h1 := h.add he.1 he.2 hx hd
    have ⟨h2, h3⟩ := ih (fun e he => hr e (by simp [he])) _ h1
    refine ⟨h2, ?_⟩
    show (spread row x (addTo acc e.To x)).sum = _
    rw [h3, addTo_sum x he.1 (by rw [h.len]; exact he.2), List.length_cons, Int.natCast_add, Int.add_mul]; simp; omega
theorem quot_ok {C u len : Nat} {x : Int} (hl : 0 < len) (hC : len ∣ C) (hx : 0 ≤ x) (hd : ((C * u : Nat) : Int) ∣ x) : 0 ≤ x / (len : Int) ∧ (u : Int) ∣ x / (len : Int) ∧ (len : Int) * (x / (len : Int)) = x := by
  obtain ⟨k, rfl⟩ := hd
  obtain ⟨c, rfl⟩ := hC
  have e : (((len * c * u : Nat) : Int) * k) = (len : Int) * ((u : Int) * ((c : Int) * k)) := by
    simp only [Int.natCast_mul]
    rw [Int.mul_assoc, Int.mul_assoc, Int.mul_left_comm (c : Int)]
  rw [e] at hx ⊢
  rw [Int.mul_ediv_cancel_left _ (by omega : (len : Int) ≠ 0)]
  refine ⟨?_, Int.dvd_mul_right _ _, rfl⟩
  apply Classical.byContradiction
  intro hneg
  have := Int.mul_neg_of_pos_of_neg (show (0 : Int) < len by omega) (show (u : Int) * ((c : Int) * k) < 0 by omega)
  omega
theorem stays_false {E : List (List Edge)} {p : Int} (h : stays E d p = false) : dA d p ≠ 0 ∧ 0 < (rowOf E p).length := by
  unfold stays at h
  simp only [Bool.or_eq_false_iff, decide_eq_false_iff_not] at h
  exact ⟨h.1, by omega⟩
theorem posStep_ok (hg : GoodMap g d) {C u : Nat} (hC : DivAll g.Edges d C) {l : List Int} (hl : MassOk g.Edges.length (C * u) l) {p : Nat} (hp : p < g.Edges.length) {acc : List Int} (ha : MassOk g.Edges.length u acc) :
    MassOk g.Edges.length u (posStep g.Edges d l acc p) ∧ (posStep g.Edges d l acc p).sum = acc.sum + ix 0 l p := by
  have hlp := hl.ix (q := (p : Int)) (by omega) (by omega)
  unfold posStep
  cases hs : stays g.Edges d p with
  | true =>
    rw [if_pos rfl]
    refine ⟨ha.add (by omega) (by omega) hlp.1 ?_, addTo_sum _ (by omega) (by rw [ha.len]; omega)⟩
    exact Int.dvd_trans (by rw [Int.natCast_mul]; exact Int.dvd_mul_left _ _) hlp.2.2
  | false =>
    rw [if_neg (by simp)]
    have ⟨_, h0⟩ := stays_false hs
    have ⟨q1, q2, q3⟩ := quot_ok h0 (hC p hp hs) hlp.1 hlp.2.2
    have ⟨s1, s2⟩ := spread_ok (n := g.Edges.length) q1 q2 (rowOf g.Edges (p : Int)) (fun e he => by have := hg.to (p := (p : Int)) (by omega) he; have := hg.dl; have := hg.el; omega) acc ha
    exact ⟨s1, by rw [s2, q3]⟩
theorem take_sum_succ (l : List Int) {j : Nat} (h : j < l.length) : (l.take (j + 1)).sum = (l.take j).sum + ix 0 l j := by
  rw [List.take_add_one, List.getElem?_eq_getElem h, Option.toList_some, List.sum_append, ix_nat 0 h]; simp
theorem round_ok (hg : GoodMap g d) {C u : Nat} (hC : DivAll g.Edges d C) {l : List Int} (hl : MassOk g.Edges.length (C * u) l) (j : Nat) (hj : j ≤ g.Edges.length) :
    MassOk g.Edges.length u ((List.range j).foldl (posStep g.Edges d l) (List.replicate g.Edges.length 0)) ∧ ((List.range j).foldl (posStep g.Edges d l) (List.replicate g.Edges.length 0)).sum = (l.take j).sum := by
  induction j with
  | zero => exact ⟨MassOk.zero _ _, by simp⟩
  | succ j ih =>
    have ⟨a, b⟩ := ih (by omega)
    rw [List.range_succ, foldl_snoc]
    have ⟨c, e⟩ := posStep_ok hg hC hl (p := j) (by omega) a
    exact ⟨c, by rw [e, b, take_sum_succ _ (by rw [hl.len]; omega)]⟩
theorem round_parts (hg : GoodMap g d) {C u : Nat} (hC : DivAll g.Edges d C) {l : List Int} (hl : MassOk g.Edges.length (C * u) l) : MassOk g.Edges.length u (roundM g.Edges d l) ∧ (roundM g.Edges d l).sum = l.sum := by
  have ⟨a, b⟩ := round_ok hg hC hl g.Edges.length (Nat.le_refl _)
  refine ⟨a, ?_⟩
  rw [← hl.len, List.take_length] at b
  unfold roundM
  rw [← b, hl.len]
theorem take_sum_le {l : List Int} (h : ∀ x ∈ l, 0 ≤ x) (j : Nat) : (l.take j).sum ≤ l.sum := by
  have : l.sum = (l.take j).sum + (l.drop j).sum := by rw [← List.sum_append, List.take_append_drop]
  have := (le_sum (l := l.drop j) (fun x hx => h x (List.mem_of_mem_drop hx))).1
  omega

/-! ## The code's rounds -/
def spreadI (E : List (List Edge)) (p : Int) (x : Int) (i : Nat) (acc : List Int) : List Int := spread ((rowOf E p).take i) x acc
theorem spread_snoc (row : List Edge) (e : Edge) (x : Int) (acc : List Int) : spread (row ++ [e]) x acc = addTo (spread row x acc) e.To x := by
  unfold spread; rw [List.foldl_append]; rfl
theorem dv_ex {a b : Int} (h : 0 ≤ a) (h' : a ≤ 1000000000000000) (hb : 0 < b) : dv a b = some (a / b) := by
  unfold dv
  rw [if_neg (by omega), Int.tdiv_eq_ediv_of_nonneg h]
  have h1 : 0 ≤ a / b := Int.ediv_nonneg h (by omega)
  have h2 : a / b ≤ a := Int.ediv_le_self b h
  rw [w64_eq (by omega) (by omega)]
theorem both_round (hg : GoodMap g d) {C u : Nat} (hC : DivAll g.Edges d C) {l : List Int} (hl : MassOk g.Edges.length (C * u) l) (hs : l.sum ≤ 1000000000000000) :
    ((mk? (l.length : Int) 0).bind fun x407 =>
     (forS (σ := (List Int)) (fun i24 s26 =>
     (at? l (i24 : Int)).bind fun x474 =>
     (at? g.Edges (i24 : Int)).bind fun x475 =>
     (((((at? d (i24 : Int)).bind fun x481 =>
     if x481 == 0 then
     (some true)
     else
     (some ((x475.length : Int) == 0))) : Option (Bool)).bind fun v67 =>
     if v67 then
     ((at? s26 (i24 : Int)).bind fun x482 =>
     (at? s26 (i24 : Int)).bind fun x483 =>
     some (Sum.inr (s26.set ((i24 : Int)).toNat (w64 (x482 + x474)))))
     else
     (some (Sum.inl ()))) : Option (Unit ⊕ _)).bind fun ov66 => onL ov66 fun v66 =>
     (forS (σ := (List Int)) (fun i25 s27 =>
     (at? x475 (i25 : Int)).bind fun x493 =>
     (at? s27 x493.To).bind fun x494 =>
     (dv x474 (x475.length : Int)).bind fun x495 =>
     some (s27.set (x493.To).toNat (w64 (x494 + x495)))) x475.length 0 s26).bind fun out27 =>
     some out27) l.length 0 x407).bind fun out26 =>
     some out26) = some (roundM g.Edges d l) ∧
    ((mk? (d.length : Int) 0).bind fun x374 =>
     (forS (σ := (List Int)) (fun i22 s24 =>
     (at? g.Edges (i22 : Int)).bind fun x462 =>
     (((((at? d (i22 : Int)).bind fun x468 =>
     if x468 == 0 then
     (some true)
     else
     (some ((x462.length : Int) == 0))) : Option (Bool)).bind fun v52 =>
     if v52 then
     ((at? s24 (i22 : Int)).bind fun x469 =>
     (at? l (i22 : Int)).bind fun x470 =>
     some (Sum.inr (s24.set ((i22 : Int)).toNat (w64 (x469 + x470)))))
     else
     (some (Sum.inl ()))) : Option (Unit ⊕ _)).bind fun ov51 => onL ov51 fun v51 =>
     (forS (σ := (List Int)) (fun i23 s25 =>
     (at? g.Edges (i22 : Int)).bind fun x486 =>
     (at? x486 (i23 : Int)).bind fun x487 =>
     (at? s25 x487.To).bind fun x488 =>
     (at? l (i22 : Int)).bind fun x489 =>
     (dv x489 (x462.length : Int)).bind fun x490 =>
     some (s25.set (x487.To).toNat (w64 (x488 + x490)))) x462.length 0 s24).bind fun out23 =>
     some out23) d.length 0 x374).bind fun out22 =>
     some out22) = some (roundM g.Edges d l) := by
  have hel := hg.el; have hdl := hg.dl; have hn2 := hg.n2
  have hll := hl.len
  have hpos : ∀ j : Nat, j < g.Edges.length → ∀ acc, acc = (List.range j).foldl (posStep g.Edges d l) (List.replicate g.Edges.length 0) →
      at? l (j : Int) = some (ix 0 l j) ∧ at? g.Edges (j : Int) = some (rowOf g.Edges j) ∧ at? d (j : Int) = some (dA d j) ∧
      (stays g.Edges d j = true → at? acc (j : Int) = some (ix 0 acc j) ∧ w64 (ix 0 acc j + ix 0 l j) = ix 0 acc j + ix 0 l j ∧ acc.set ((j : Int)).toNat (ix 0 acc j + ix 0 l j) = posStep g.Edges d l acc j) ∧
      (stays g.Edges d j = false → dv (ix 0 l j) ((rowOf g.Edges (j : Int)).length : Int) = some (ix 0 l j / ((rowOf g.Edges (j : Int)).length : Int)) ∧ ∀ i (hi : i < (rowOf g.Edges (j : Int)).length), ∀ s, s = spreadI g.Edges j (ix 0 l j / ((rowOf g.Edges (j : Int)).length : Int)) i acc →
        at? s (rowOf g.Edges (j : Int))[i].To = some (ix 0 s (rowOf g.Edges (j : Int))[i].To) ∧ w64 (ix 0 s (rowOf g.Edges (j : Int))[i].To + ix 0 l j / ((rowOf g.Edges (j : Int)).length : Int)) = ix 0 s (rowOf g.Edges (j : Int))[i].To + ix 0 l j / ((rowOf g.Edges (j : Int)).length : Int) ∧
        s.set (rowOf g.Edges (j : Int))[i].To.toNat (ix 0 s (rowOf g.Edges (j : Int))[i].To + ix 0 l j / ((rowOf g.Edges (j : Int)).length : Int)) = spreadI g.Edges j (ix 0 l j / ((rowOf g.Edges (j : Int)).length : Int)) (i + 1) acc) := by
    intro j hj acc hacc
    have ⟨ha, hsum⟩ := round_ok hg hC hl j (by omega)
    rw [← hacc] at ha hsum
    have hts := take_sum_le hl.nn (j + 1)
    rw [take_sum_succ _ (by omega)] at hts
    have hlj := hl.ix (q := (j : Int)) (by omega) (by omega)
    have haj := ha.ix (q := (j : Int)) (by omega) (by omega)
    have hal := ha.len
    refine ⟨at?_ix 0 (by omega) (by omega), at?_ix [] (by omega) (by omega), at?_ix 0 (by omega) (by omega), ?_, ?_⟩
    · intro hst
      refine ⟨at?_ix 0 (by omega) (by omega), w64_eq (by omega) (by omega), ?_⟩
      unfold posStep
      rw [if_pos hst]; rfl
    · intro hst
      have ⟨_, h0⟩ := stays_false hst
      have ⟨q1, q2, q3⟩ := quot_ok h0 (hC j hj hst) hlj.1 hlj.2.2
      refine ⟨dv_ex hlj.1 (by omega) (by omega), ?_⟩
      intro i hi s hsd
      generalize ix 0 l (j : Int) / ((rowOf g.Edges (j : Int)).length : Int) = x at *
      have hto := hg.to (p := (j : Int)) (by omega) (List.getElem_mem hi)
      have ⟨s1, s2⟩ := spread_ok (n := g.Edges.length) q1 q2 ((rowOf g.Edges (j : Int)).take i) (fun e he => by have := hg.to (p := (j : Int)) (by omega) (List.mem_of_mem_take he); omega) acc ha
      have hsd' : s = spread ((rowOf g.Edges (j : Int)).take i) x acc := hsd
      rw [← hsd'] at s1 s2
      have hst := s1.ix (q := (rowOf g.Edges (j : Int))[i].To) hto.1 (by omega)
      have hsl := s1.len
      rw [List.length_take, Nat.min_eq_left (by omega)] at s2
      have hmul : (i : Int) * x + x ≤ ((rowOf g.Edges (j : Int)).length : Int) * x := by
        have : ((i + 1 : Nat) : Int) * x ≤ ((rowOf g.Edges (j : Int)).length : Int) * x := Int.mul_le_mul_of_nonneg_right (by omega) q1
        rw [Int.natCast_add, Int.add_mul] at this; simpa using this
      have hmul0 : 0 ≤ (i : Int) * x := Int.mul_nonneg (by omega) q1
      have ht0 : (l.take j).sum ≤ l.sum := take_sum_le hl.nn j
      refine ⟨at?_ix 0 hto.1 (by omega), w64_eq (by omega) (by omega), ?_⟩
      unfold spreadI
      rw [List.take_add_one, List.getElem?_eq_getElem hi, Option.toList_some, spread_snoc, ← hsd']; rfl
  have hstays : ∀ j : Nat, (if (dA d (j : Int) == 0) = true then some true else some (((rowOf g.Edges (j : Int)).length : Int) == 0)) = some (stays g.Edges d j) := by
    intro j
    unfold stays
    by_cases h : dA d (j : Int) = 0
    · rw [if_pos (by simpa using h), decide_eq_true h]; rfl
    · rw [if_neg (by simpa using h), decide_eq_false h, Bool.false_or]
      congr 1
      by_cases h2 : (rowOf g.Edges (j : Int)).length = 0 <;> simp [h2]
  constructor
  · rw [mk?_le (by omega) (by omega), Option.bind_some, Int.toNat_natCast, hll]
    obtain ⟨r, h1, h2⟩ := Tot.forS (σ := List Int) (k := g.Edges.length) (s := List.replicate g.Edges.length 0) (body := fun i24 s26 =>
     (at? l (i24 : Int)).bind fun x474 =>
     (at? g.Edges (i24 : Int)).bind fun x475 =>
     (((((at? d (i24 : Int)).bind fun x481 =>
     if x481 == 0 then
     (some true)
     else
     (some ((x475.length : Int) == 0))) : Option (Bool)).bind fun v67 =>
     if v67 then
     ((at? s26 (i24 : Int)).bind fun x482 =>
     (at? s26 (i24 : Int)).bind fun x483 =>
     some (Sum.inr (s26.set ((i24 : Int)).toNat (w64 (x482 + x474)))))
     else
     (some (Sum.inl ()))) : Option (Unit ⊕ _)).bind fun ov66 => onL ov66 fun v66 =>
     (forS (σ := (List Int)) (fun i25 s27 =>
     (at? x475 (i25 : Int)).bind fun x493 =>
     (at? s27 x493.To).bind fun x494 =>
     (dv x474 (x475.length : Int)).bind fun x495 =>
     some (s27.set (x493.To).toNat (w64 (x494 + x495)))) x475.length 0 s26).bind fun out27 =>
     some out27) (fun j s => s = (List.range j).foldl (posStep g.Edges d l) (List.replicate g.Edges.length 0)) rfl (by
      intro j s hj hsj
      obtain ⟨p1, p2, p3, p4, p5⟩ := hpos j hj s hsj
      rw [p1, Option.bind_some, p2, Option.bind_some, p3, Option.bind_some, hstays, Option.bind_some]
      rw [List.range_succ, foldl_snoc, ← hsj]
      cases hst : stays g.Edges d j with
      | true =>
        obtain ⟨q1, q2, q3⟩ := p4 hst
        rw [if_pos rfl, q1]
        simp only [Option.bind_some, onL]
        rw [q2, q3]
        exact Tot.pure rfl
      | false =>
        obtain ⟨q1, q2⟩ := p5 hst
        rw [if_neg (by simp)]
        simp only [Option.bind_some, onL]
        refine Tot.bind _ (Tot.forS (fun i t => t = spreadI g.Edges j (ix 0 l j / ((rowOf g.Edges (j : Int)).length : Int)) i s) (by unfold spreadI; simp [spread]) ?_) ?_
        · intro i t hi ht
          obtain ⟨e1, e2, e3⟩ := q2 i hi t ht
          rw [at?_lt hi, Option.bind_some, e1, Option.bind_some, q1, Option.bind_some, e2, e3]
          exact Tot.pure rfl
        · intro t ht
          refine Tot.pure ?_
          rw [ht]
          unfold spreadI posStep
          rw [List.take_length, hst, if_neg (by simp)])
    refine Eq.trans (congrArg (fun o => Option.bind o _) h1) ?_
    rw [Option.bind_some, h2]; rfl
  · rw [mk?_le (by omega) (by omega), Option.bind_some, Int.toNat_natCast, show d.length = g.Edges.length by omega]
    obtain ⟨r, h1, h2⟩ := Tot.forS (σ := List Int) (k := g.Edges.length) (s := List.replicate g.Edges.length 0) (body := fun i22 s24 =>
     (at? g.Edges (i22 : Int)).bind fun x462 =>
     (((((at? d (i22 : Int)).bind fun x468 =>
     if x468 == 0 then
     (some true)
     else
     (some ((x462.length : Int) == 0))) : Option (Bool)).bind fun v52 =>
     if v52 then
     ((at? s24 (i22 : Int)).bind fun x469 =>
     (at? l (i22 : Int)).bind fun x470 =>
     some (Sum.inr (s24.set ((i22 : Int)).toNat (w64 (x469 + x470)))))
     else
     (some (Sum.inl ()))) : Option (Unit ⊕ _)).bind fun ov51 => onL ov51 fun v51 =>
     (forS (σ := (List Int)) (fun i23 s25 =>
     (at? g.Edges (i22 : Int)).bind fun x486 =>
     (at? x486 (i23 : Int)).bind fun x487 =>
     (at? s25 x487.To).bind fun x488 =>
     (at? l (i22 : Int)).bind fun x489 =>
     (dv x489 (x462.length : Int)).bind fun x490 =>
     some (s25.set (x487.To).toNat (w64 (x488 + x490)))) x462.length 0 s24).bind fun out23 =>
     some out23) (fun j s => s = (List.range j).foldl (posStep g.Edges d l) (List.replicate g.Edges.length 0)) rfl (by
      intro j s hj hsj
      obtain ⟨p1, p2, p3, p4, p5⟩ := hpos j hj s hsj
      rw [p1, p2, Option.bind_some, p3, Option.bind_some, hstays, Option.bind_some]
      rw [List.range_succ, foldl_snoc, ← hsj]
      cases hst : stays g.Edges d j with
      | true =>
        obtain ⟨q1, q2, q3⟩ := p4 hst
        rw [if_pos rfl, q1]
        simp only [Option.bind_some, onL]
        rw [q2, q3]
        exact Tot.pure rfl
      | false =>
        obtain ⟨q1, q2⟩ := p5 hst
        rw [if_neg (by simp)]
        simp only [Option.bind_some, onL]
        refine Tot.bind _ (Tot.forS (fun i t => t = spreadI g.Edges j (ix 0 l j / ((rowOf g.Edges (j : Int)).length : Int)) i s) (by unfold spreadI; simp [spread]) ?_) ?_
        · intro i t hi ht
          obtain ⟨e1, e2, e3⟩ := q2 i hi t ht
          rw [at?_lt hi, Option.bind_some, e1, Option.bind_some, q1, Option.bind_some, e2, e3]
          exact Tot.pure rfl
        · intro t ht
          refine Tot.pure ?_
          rw [ht]
          unfold spreadI posStep
          rw [List.take_length, hst, if_neg (by simp)])
    refine Eq.trans (congrArg (fun o => Option.bind o _) h1) ?_
    rw [Option.bind_some, h2]; rfl
end
end Go.Proofs.Ytogfongmnkmegaa.Pad
