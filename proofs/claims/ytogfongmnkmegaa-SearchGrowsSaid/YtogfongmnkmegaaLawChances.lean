/- Chance of both, and SearchChances. -/
import Derived.Test.YtogfongmnkmegaaLawChance
set_option linter.unusedVariables false
namespace Go.Proofs.Ytogfongmnkmegaa.Pad
open Go Go.Proofs

abbrev maxDen : Nat := 1000000000000000
def commStep (E : List (List Edge)) (d : List Int) (s : Nat) (p : Nat) : Nat :=
  if stays E d p then s else if s ≤ maxDen then s * ((rowOf E (p : Int)).length / Nat.gcd s (rowOf E (p : Int)).length) else s
def comm (E : List (List Edge)) (d : List Int) (j : Nat) : Nat := (List.range j).foldl (commStep E d) 1
theorem comm_succ (E : List (List Edge)) (d : List Int) (j : Nat) : comm E d (j + 1) = commStep E d (comm E d j) j := by
  unfold comm; rw [List.range_succ, foldl_snoc]
theorem lcm_eq (s len : Nat) : s * (len / Nat.gcd s len) = Nat.lcm s len := by
  unfold Nat.lcm
  rw [Nat.mul_div_assoc _ (Nat.gcd_dvd_right s len)]
theorem lcm_eq' (s len : Nat) : (s / Nat.gcd s len) * len = Nat.lcm s len := by
  unfold Nat.lcm
  rw [Nat.mul_comm, ← Nat.mul_div_assoc _ (Nat.gcd_dvd_left s len), Nat.mul_comm]
section
variable {g : Graph} {d : List Int}
theorem comm_ok (hg : GoodMap g d) : ∀ j, j ≤ g.Edges.length → 1 ≤ comm g.Edges d j ∧ comm g.Edges d j ≤ 100 * maxDen ∧ (comm g.Edges d j ≤ maxDen → ∀ p : Nat, p < j → stays g.Edges d p = false → (rowOf g.Edges (p : Int)).length ∣ comm g.Edges d j) := by
  intro j
  induction j with
  | zero => intro _; exact ⟨Nat.le_refl _, (by show (1 : Nat) ≤ 100 * maxDen; decide), fun _ p h => by omega⟩
  | succ j ih =>
    intro hj
    obtain ⟨a, b, c⟩ := ih (by omega)
    have hlen := hg.len (p := (j : Int)) (by omega)
    rw [comm_succ]
    unfold commStep
    cases hs : stays g.Edges d j with
    | true =>
      rw [if_pos rfl]
      refine ⟨a, b, fun h p hp hps => ?_⟩
      by_cases e : p = j
      · subst e; rw [hs] at hps; cases hps
      · exact c h p (by omega) hps
    | false =>
      rw [if_neg (by simp)]
      have ⟨_, h0⟩ := stays_false hs
      by_cases h : comm g.Edges d j ≤ maxDen
      · rw [if_pos h]
        have hq : (rowOf g.Edges (j : Int)).length / Nat.gcd (comm g.Edges d j) (rowOf g.Edges (j : Int)).length ≤ 100 := Nat.le_trans (Nat.div_le_self _ _) hlen
        have hq0 : 0 < (rowOf g.Edges (j : Int)).length / Nat.gcd (comm g.Edges d j) (rowOf g.Edges (j : Int)).length := Nat.div_pos (Nat.gcd_le_right _ h0) (Nat.gcd_pos_of_pos_right _ h0)
        refine ⟨Nat.mul_pos a hq0, ?_, ?_⟩
        · calc _ ≤ maxDen * 100 := Nat.mul_le_mul h hq
            _ = 100 * maxDen := Nat.mul_comm _ _
        · intro _ p hp hps
          rw [lcm_eq]
          by_cases e : p = j
          · subst e; exact Nat.dvd_lcm_right _ _
          · exact Nat.dvd_trans (c h p (by omega) hps) (Nat.dvd_lcm_left _ _)
      · rw [if_neg h]
        exact ⟨a, b, fun h' => (h h').elim⟩
theorem comm_stuck {j : Nat} (h : maxDen < comm g.Edges d j) : ∀ k, comm g.Edges d (j + k) = comm g.Edges d j := by
  intro k
  induction k with
  | zero => rfl
  | succ k ih =>
    rw [← Nat.add_assoc, comm_succ, ih]
    unfold commStep
    split
    · rfl
    · rw [if_neg (by omega)]
theorem stays_cond (hg : GoodMap g d) {j : Nat} (hj : j < g.Edges.length) : (decide (0 < ((rowOf g.Edges (j : Int)).length : Int)) = true ∧ (dA d (j : Int) != 0) = true ↔ stays g.Edges d j = false) := by
  unfold stays
  simp only [decide_eq_true_eq, bne_iff_ne, ne_eq, Bool.or_eq_false_iff, decide_eq_false_iff_not]
  omega
theorem F63_eq (hg : GoodMap g d) : F63 ⟨g.Edges, d⟩ 1000000000000000 = some ((comm g.Edges d g.Edges.length : Nat) : Int) := by
  have hel := hg.el; have hdl := hg.dl
  unfold F63
  obtain ⟨r, h1, h2⟩ := Tot.forS (σ := Int) (k := g.Edges.length) (s := 1) (body := fun i1 s1 =>
     (at? g.Edges (i1 : Int)).bind fun x16 =>
     ((if decide (0 < (x16.length : Int)) then
     ((at? d (i1 : Int)).bind fun x18 =>
     if x18 != 0 then
     (some (decide (s1 ≤ 1000000000000000)))
     else
     (some false))
     else
     (some false)) : Option (Bool)).bind fun v4 =>
     if v4 then
     ((F54 s1 (x16.length : Int)).bind fun x19 =>
     (dv (x16.length : Int) x19).bind fun x20 =>
     some (w64 (s1 * x20)))
     else
     (some s1)) (fun j s => s = ((comm g.Edges d j : Nat) : Int)) rfl (by
      intro j s hj hs
      subst hs
      have hatE : at? g.Edges (j : Int) = some (rowOf g.Edges j) := at?_ix [] (by omega) (by omega)
      have hatd : at? d (j : Int) = some (dA d j) := at?_ix 0 (by omega) (by omega)
      have hlen := hg.len (p := (j : Int)) (by omega)
      obtain ⟨c1, c2, _⟩ := comm_ok hg j (by omega)
      have hsc := stays_cond hg hj
      rw [hatE, hatd, Option.bind_some]
      simp only [Option.bind_some]
      have hv : (if decide (0 < ((rowOf g.Edges (j : Int)).length : Int)) = true then (if (dA d (j : Int) != 0) = true then some (decide (((comm g.Edges d j : Nat) : Int) ≤ 1000000000000000)) else some false) else some false) = some (!stays g.Edges d j && decide (comm g.Edges d j ≤ maxDen)) := by
        cases hs : stays g.Edges d j with
        | false =>
          have := hsc.2 hs
          rw [if_pos this.1, if_pos this.2]
          simp only [Bool.not_false, Bool.true_and]
          congr 1
          have hM : maxDen = 1000000000000000 := rfl
          exact decide_eq_decide.2 (by omega)
        | true =>
          have : ¬ (decide (0 < ((rowOf g.Edges (j : Int)).length : Int)) = true ∧ (dA d (j : Int) != 0) = true) := fun h => by have := hsc.1 h; rw [hs] at this; cases this
          by_cases h1 : decide (0 < ((rowOf g.Edges (j : Int)).length : Int)) = true
          · rw [if_pos h1, if_neg (fun h2 => this ⟨h1, h2⟩)]; rfl
          · rw [if_neg h1]; rfl
      rw [hv, Option.bind_some]
      refine Tot.mono (P := fun r => r = ((comm g.Edges d (j + 1) : Nat) : Int)) ?_ (fun a h => h)
      rw [comm_succ]
      unfold commStep
      cases hs : stays g.Edges d j with
      | true => rw [if_neg (by simp), if_pos rfl]; exact Tot.pure rfl
      | false =>
        have ⟨_, h0⟩ := stays_false hs
        rw [if_neg (by simp : ¬ (false = true))]
        by_cases h : comm g.Edges d j ≤ maxDen
        · rw [if_pos (by simp [h]), if_pos h, F54_eq, Option.bind_some, dv_nat (Nat.gcd_pos_of_pos_right _ h0) (by omega), Option.bind_some]
          have hq : (rowOf g.Edges (j : Int)).length / Nat.gcd (comm g.Edges d j) (rowOf g.Edges (j : Int)).length ≤ 100 := Nat.le_trans (Nat.div_le_self _ _) hlen
          have hm : comm g.Edges d j * ((rowOf g.Edges (j : Int)).length / Nat.gcd (comm g.Edges d j) (rowOf g.Edges (j : Int)).length) ≤ maxDen * 100 := Nat.mul_le_mul h hq
          rw [← Int.natCast_mul]
          generalize comm g.Edges d j * ((rowOf g.Edges (j : Int)).length / Nat.gcd (comm g.Edges d j) (rowOf g.Edges (j : Int)).length) = q at hm
          rw [w64_eq (by omega) (by unfold maxDen at hm; omega)]
          exact Tot.pure rfl
        · rw [if_neg (by simp [h]), if_neg h]; exact Tot.pure rfl)
  refine Eq.trans (congrArg (fun o => Option.bind o _) h1) ?_
  rw [Option.bind_some, h2]
theorem ref_common (hg : GoodMap g d) {a2 : Int} (h : 0 < a2) : Tot (forN (σ := (Int)) (fun i1 s1 =>
 (at? g.Edges (i1 : Int)).bind fun x18 =>
 ((if decide (0 < a2) then
 ((at? d (i1 : Int)).bind fun x20 =>
 if x20 != 0 then
 (some (decide (0 < (x18.length : Int))))
 else
 (some false))
 else
 (some false)) : Option (Bool)).bind fun v4 =>
 if v4 then
 ((F55 s1 (x18.length : Int)).bind fun x21 =>
 (dv s1 x21).bind fun x22 =>
 if decide (1000000000000000 < (w64 (x22 * (x18.length : Int)))) then
 (some (Sum.inr (0, 0, 2)))
 else
 (some (Sum.inl (w64 (x22 * (x18.length : Int))))))
 else
 (some (Sum.inl s1))) d.length 0 1) (Sum.elim (fun s : Int => s = ((comm g.Edges d g.Edges.length : Nat) : Int) ∧ comm g.Edges d g.Edges.length ≤ maxDen) (fun r : Int × Int × Int => r = (0, 0, 2) ∧ maxDen < comm g.Edges d g.Edges.length)) := by
  have hel := hg.el; have hdl := hg.dl
  rw [show d.length = g.Edges.length by omega]
  refine Tot.forN (fun j s => s = ((comm g.Edges d j : Nat) : Int) ∧ comm g.Edges d j ≤ maxDen) (fun r : Int × Int × Int => r = (0, 0, 2) ∧ maxDen < comm g.Edges d g.Edges.length) ⟨rfl, (by show (1 : Nat) ≤ maxDen; decide)⟩ ?_
  rintro j _ hj ⟨rfl, hle⟩
  have hatE : at? g.Edges (j : Int) = some (rowOf g.Edges j) := at?_ix [] (by omega) (by omega)
  have hatd : at? d (j : Int) = some (dA d j) := at?_ix 0 (by omega) (by omega)
  have hlen := hg.len (p := (j : Int)) (by omega)
  have hsc := stays_cond hg hj
  obtain ⟨c1, _, _⟩ := comm_ok hg j (by omega)
  rw [hatE, hatd, Option.bind_some, if_pos (by simpa using h)]
  simp only [Option.bind_some]
  have hv : (if (dA d (j : Int) != 0) = true then some (decide (0 < ((rowOf g.Edges (j : Int)).length : Int))) else some false) = some (!stays g.Edges d j) := by
    cases hs : stays g.Edges d j with
    | false =>
      have := hsc.2 hs
      rw [if_pos this.2, this.1]; rfl
    | true =>
      have : ¬ (decide (0 < ((rowOf g.Edges (j : Int)).length : Int)) = true ∧ (dA d (j : Int) != 0) = true) := fun h => by have := hsc.1 h; rw [hs] at this; cases this
      by_cases h1 : (dA d (j : Int) != 0) = true
      · rw [if_pos h1]
        congr 1
        cases h2 : decide (0 < ((rowOf g.Edges (j : Int)).length : Int)) with
        | false => rfl
        | true => exact (this ⟨h2, h1⟩).elim
      · rw [if_neg h1]; rfl
  rw [hv, Option.bind_some]
  have hcs := comm_succ g.Edges d j
  unfold commStep at hcs
  cases hs : stays g.Edges d j with
  | true =>
    rw [hs, if_pos rfl] at hcs
    rw [if_neg (by simp)]
    exact Tot.pure ⟨by rw [hcs], by rw [hcs]; exact hle⟩
  | false =>
    have ⟨_, h0⟩ := stays_false hs
    rw [hs, if_neg (by simp : ¬ (false = true)), if_pos hle, lcm_eq] at hcs
    simp only [Bool.not_false, if_true]
    rw [F55_eq, Option.bind_some, dv_nat (Nat.gcd_pos_of_pos_right _ h0) (by unfold maxDen at hle; omega), Option.bind_some, ← Int.natCast_mul, lcm_eq', ← hcs]
    have hb := (comm_ok hg (j + 1) (by omega)).2.1
    rw [w64_eq (by omega) (by unfold maxDen at hb; omega)]
    by_cases hbig : maxDen < comm g.Edges d (j + 1)
    · rw [if_pos (by unfold maxDen at hbig; simp only [decide_eq_true_eq]; omega)]
      refine Tot.pure ⟨rfl, ?_⟩
      have := comm_stuck hbig (g.Edges.length - (j + 1))
      rw [show j + 1 + (g.Edges.length - (j + 1)) = g.Edges.length by omega] at this
      omega
    · rw [if_neg (by unfold maxDen at hbig; simp only [decide_eq_true_eq]; omega)]
      exact Tot.pure ⟨rfl, by omega⟩
theorem ref_common0 (hg : GoodMap g d) : Tot (forN (σ := (Int)) (fun i1 s1 =>
 (at? g.Edges (i1 : Int)).bind fun x18 =>
 ((if decide (0 < (0 : Int)) then
 ((at? d (i1 : Int)).bind fun x20 =>
 if x20 != 0 then
 (some (decide (0 < (x18.length : Int))))
 else
 (some false))
 else
 (some false)) : Option (Bool)).bind fun v4 =>
 if v4 then
 ((F55 s1 (x18.length : Int)).bind fun x21 =>
 (dv s1 x21).bind fun x22 =>
 if decide (1000000000000000 < (w64 (x22 * (x18.length : Int)))) then
 (some (Sum.inr (0, 0, 2)))
 else
 (some (Sum.inl (w64 (x22 * (x18.length : Int))))))
 else
 (some (Sum.inl s1))) d.length 0 1) (Sum.elim (fun s : Int => s = 1) (fun r : Int × Int × Int => False)) := by
  have hel := hg.el; have hdl := hg.dl
  refine Tot.forN (fun j s => s = 1) (fun r : Int × Int × Int => False) rfl ?_
  rintro j _ hj rfl
  have hatE : at? g.Edges (j : Int) = some (rowOf g.Edges j) := at?_ix [] (by omega) (by omega)
  rw [hatE, Option.bind_some, if_neg (by simp), Option.bind_some, if_neg (by simp)]
  exact Tot.pure rfl
/-- A power, as long as it is not too great. -/
theorem pow_loop {ρ : Type} (C : Nat) (hC : 1 ≤ C) (hC2 : C ≤ 100 * maxDen) (z : ρ) (k : Nat) : forN (σ := (Int)) (fun i1 s1 =>
 (dv 1000000000000000 (C : Int)).bind fun x5 =>
 if decide (x5 < s1) then
 (some (Sum.inr z))
 else
 (some (Sum.inl (w64 (s1 * (C : Int)))))) k 0 1 = some (if C ^ k ≤ maxDen then Sum.inl ((C ^ k : Nat) : Int) else Sum.inr z) := by
  obtain ⟨o, h1, h2⟩ := Tot.forN (σ := Int) (ρ := ρ) (k := k) (s := 1) (body := fun i1 s1 =>
     (dv 1000000000000000 (C : Int)).bind fun x5 =>
     if decide (x5 < s1) then
     (some (Sum.inr z))
     else
     (some (Sum.inl (w64 (s1 * (C : Int)))))) (fun j s => s = ((C ^ j : Nat) : Int) ∧ C ^ j ≤ maxDen) (fun r => r = z ∧ maxDen < C ^ k) ⟨by simp, by rw [Nat.pow_zero]; decide⟩ (by
      rintro j _ hj ⟨rfl, hle⟩
      have hd : dv 1000000000000000 (C : Int) = some ((maxDen / C : Nat) : Int) := dv_nat (a := maxDen) (by omega) (by decide)
      rw [hd, Option.bind_some]
      have hiff : maxDen / C < C ^ j ↔ maxDen < C ^ (j + 1) := by
        rw [Nat.div_lt_iff_lt_mul (by omega), Nat.pow_succ]
      by_cases h : maxDen < C ^ (j + 1)
      · rw [if_pos (by simp only [decide_eq_true_eq]; have := hiff.2 h; omega)]
        exact Tot.pure ⟨rfl, Nat.lt_of_lt_of_le h (Nat.pow_le_pow_right (by omega) hj)⟩
      · rw [if_neg (by simp only [decide_eq_true_eq]; have := fun x => h (hiff.1 x); omega)]
        have hp : ((C ^ j : Nat) : Int) * (C : Int) = ((C ^ (j + 1) : Nat) : Int) := by rw [← Int.natCast_mul, Nat.pow_succ]
        rw [hp]
        generalize hG : C ^ (j + 1) = G at h
        rw [w64_eq (by omega) (by unfold maxDen at h; omega)]
        refine Tot.pure ?_
        show _ = _ ∧ _
        exact ⟨rfl, by omega⟩)
  rw [h1]
  cases o with
  | inl s => obtain ⟨rfl, h3⟩ := h2; rw [if_pos h3]
  | inr r => obtain ⟨rfl, h3⟩ := h2; rw [if_neg (by omega)]
theorem F62_eq (C : Nat) (hC : 1 ≤ C) (hC2 : C ≤ 100 * maxDen) (k : Nat) (hk : k ≤ 20) : F62 (C : Int) (k : Int) 1000000000000000 = some (if C ^ k ≤ maxDen then (((C ^ k : Nat) : Int), true) else (0, false)) := by
  unfold F62
  rw [cnt?_le (by omega), Option.bind_some, Int.toNat_natCast, pow_loop C hC hC2]
  by_cases h : C ^ k ≤ maxDen
  · rw [if_pos h, if_pos h]; rfl
  · rw [if_neg h, if_neg h]; rfl

/-! ## The rounds -/
def start (n : Nat) (all : Int) : List Int := (List.replicate n 0).set (0 : Int).toNat all
def roundsM (E : List (List Edge)) (d : List Int) (l : List Int) (k : Nat) : List Int := (List.range k).foldl (fun l _ => roundM E d l) l
theorem roundsM_succ (E : List (List Edge)) (d l : List Int) (k : Nat) : roundsM E d l (k + 1) = roundM E d (roundsM E d l k) := by
  unfold roundsM; rw [List.range_succ, foldl_snoc]
theorem start_ok (n : Nat) (hn : 0 < n) (all : Nat) : MassOk n all (start n all) ∧ (start n all).sum = all := by
  have h := (MassOk.zero n all).add (q := 0) (x := (all : Int)) (by omega) (by omega) (by omega) (Int.dvd_refl _)
  have h0 : ix 0 (List.replicate n (0 : Int)) 0 = 0 := by
    have := ix_nat (0 : Int) (l := List.replicate n (0 : Int)) (i := 0) (by simpa using hn)
    simpa using this
  have e : addTo (List.replicate n 0) 0 (all : Int) = start n all := by
    unfold addTo start
    rw [h0, Int.zero_add]
  have hsum := addTo_sum (l := List.replicate n (0 : Int)) (q := 0) (all : Int) (by omega) (by simpa using hn)
  rw [e] at h hsum
  refine ⟨h, ?_⟩
  rw [hsum]; simp
theorem rounds_ok (hg : GoodMap g d) {C k : Nat} (hC : 0 < k → DivAll g.Edges d C) : ∀ j, j ≤ k → MassOk g.Edges.length (C ^ (k - j)) (roundsM g.Edges d (start g.Edges.length ((C ^ k : Nat) : Int)) j) ∧ (roundsM g.Edges d (start g.Edges.length ((C ^ k : Nat) : Int)) j).sum = ((C ^ k : Nat) : Int) := by
  intro j
  induction j with
  | zero => intro _; exact start_ok _ (by have := hg.el; have := hg.n1; omega) _
  | succ j ih =>
    intro hj
    obtain ⟨a, b⟩ := ih (by omega)
    rw [roundsM_succ]
    rw [show k - j = (k - (j + 1)) + 1 by omega, Nat.pow_succ, Nat.mul_comm] at a
    have ⟨c, e⟩ := round_parts hg (hC (by omega)) a
    exact ⟨c, by rw [e, b]⟩
def finOf (d l : List Int) (j : Nat) : Int := ((List.range j).map (fun p : Nat => if dA d p = 0 then ix 0 l p else 0)).sum
theorem finOf_succ (d l : List Int) (j : Nat) : finOf d l (j + 1) = finOf d l j + if dA d (j : Int) = 0 then ix 0 l j else 0 := by
  unfold finOf; rw [List.range_succ, List.map_append, List.sum_append]; simp
theorem finOf_ok {n u : Nat} {l : List Int} (hl : MassOk n u l) : ∀ j, j ≤ n → 0 ≤ finOf d l j ∧ finOf d l j ≤ (l.take j).sum := by
  intro j
  induction j with
  | zero => intro _; simp [finOf]
  | succ j ih =>
    intro hj
    have := ih (by omega)
    have h2 := hl.ix (q := (j : Int)) (by omega) (by omega)
    rw [finOf_succ, take_sum_succ _ (by rw [hl.len]; omega)]
    split <;> omega

/-- What Chance answers. -/
def ChanceIs (g : Graph) (d : List Int) (a2 : Int) (r : Int × Int × Int) : Prop :=
  (r = (0, 0, 60) ∧ ¬ GoodMap g d) ∨ (GoodMap g d ∧ ((r = (0, 0, 1) ∧ ¬ (0 ≤ a2 ∧ a2 ≤ 20)) ∨ ∃ k : Nat, a2 = k ∧ k ≤ 20 ∧
    ((r = (0, 0, 2) ∧ maxDen < comm g.Edges d g.Edges.length ^ k) ∨
      (comm g.Edges d g.Edges.length ^ k ≤ maxDen ∧ r.2.2 = 0 ∧ ∃ num : Nat, (num : Int) = finOf d (roundsM g.Edges d (start g.Edges.length ((comm g.Edges d g.Edges.length ^ k : Nat) : Int)) k) g.Edges.length ∧
        r.1 = ((num / Nat.gcd num (comm g.Edges d g.Edges.length ^ k) : Nat) : Int) ∧ r.2.1 = ((comm g.Edges d g.Edges.length ^ k / Nat.gcd num (comm g.Edges d g.Edges.length ^ k) : Nat) : Int)))))
theorem divAll_comm (hg : GoodMap g d) {k : Nat} (h : comm g.Edges d g.Edges.length ^ k ≤ maxDen) (hk : 0 < k) : DivAll g.Edges d (comm g.Edges d g.Edges.length) := by
  obtain ⟨a, _, c⟩ := comm_ok hg g.Edges.length (Nat.le_refl _)
  have : comm g.Edges d g.Edges.length ≤ comm g.Edges d g.Edges.length ^ k := by
    have := Nat.pow_le_pow_right a hk
    simpa using this
  intro p hp hs
  exact c (by omega) p hp hs
theorem F36_F37 (g : Graph) (d : List Int) (a2 : Int) : ∃ r, F36 g d a2 = some r ∧ F37 g d a2 = some r ∧ ChanceIs g d a2 r := by
  unfold F36 F37
  obtain ⟨⟨v, e⟩, h1, h2, h3⟩ := F57_spec g d
  obtain ⟨e', h4, h5⟩ := F21_spec g d
  simp only at h2 h3
  subst h2
  rw [h1, h4, Option.bind_some, Option.bind_some]
  rcases h3 with ⟨rfl, hg⟩ | ⟨rfl, hg⟩ <;> rcases h5 with ⟨rfl, hg'⟩ | ⟨rfl, hg'⟩
  rotate_left
  · exact (hg' hg).elim
  · exact (hg hg').elim
  · exact ⟨(0, 0, 60), by simp, by simp, .inl ⟨rfl, hg⟩⟩
  have hel := hg.el; have hdl := hg.dl; have hn2 := hg.n2; have hn1 := hg.n1
  simp only
  rw [if_neg (by simp), if_neg (by simp), F61_eq, F49_eq, Option.bind_some, Option.bind_some]
  by_cases hr : 0 ≤ a2 ∧ a2 ≤ 20
  rotate_left
  · have hr' : (!decide (0 ≤ a2 ∧ a2 ≤ 20)) = true := by simp only [decide_eq_false hr, Bool.not_false]
    rw [hr']
    exact ⟨(0, 0, 1), rfl, rfl, .inr ⟨hg, .inl ⟨rfl, hr⟩⟩⟩
  have hr' : (!decide (0 ≤ a2 ∧ a2 ≤ 20)) = false := by simp only [decide_eq_true hr, Bool.not_true]
  rw [hr']
  simp only [Bool.false_eq_true, if_false]
  obtain ⟨k, rfl⟩ : ∃ k : Nat, a2 = k := ⟨a2.toNat, by omega⟩
  obtain ⟨c1, c2, c3⟩ := comm_ok hg g.Edges.length (Nat.le_refl _)
  have hcm : comm g.Edges d g.Edges.length ≤ comm g.Edges d g.Edges.length ^ k ∨ k = 0 := by
    by_cases hk : k = 0
    · exact .inr hk
    · left
      have := Nat.pow_le_pow_right c1 (show 1 ≤ k by omega)
      simpa using this
  have hdiv := fun h hk => divAll_comm hg (k := k) h hk
  rw [F63_eq hg, Option.bind_some, F62_eq _ c1 c2 k (by omega), Option.bind_some]
  generalize hCC : comm g.Edges d g.Edges.length = C at *
  -- the reference's common multiple and power
  have href : ∀ {K : Int → Option (Int × Int × Int)}, (forN (σ := (Int)) (fun i1 s1 =>
     (at? g.Edges (i1 : Int)).bind fun x18 =>
     ((if decide (0 < (k : Int)) then
     ((at? d (i1 : Int)).bind fun x20 =>
     if x20 != 0 then
     (some (decide (0 < (x18.length : Int))))
     else
     (some false))
     else
     (some false)) : Option (Bool)).bind fun v4 =>
     if v4 then
     ((F55 s1 (x18.length : Int)).bind fun x21 =>
     (dv s1 x21).bind fun x22 =>
     if decide (1000000000000000 < (w64 (x22 * (x18.length : Int)))) then
     (some (Sum.inr (0, 0, 2)))
     else
     (some (Sum.inl (w64 (x22 * (x18.length : Int))))))
     else
     (some (Sum.inl s1))) d.length 0 1).bind (fun o2 => onL o2 fun out1 =>
     (cnt? (k : Int)).bind fun x26 =>
     (forN (σ := (Int)) (fun i2 s3 =>
     (dv 1000000000000000 out1).bind fun x27 =>
     if decide (x27 < s3) then
     (some (Sum.inr (0, 0, 2)))
     else
     (some (Sum.inl (w64 (s3 * out1))))) x26 0 1).bind fun o4 => onL o4 K) = if C ^ k ≤ maxDen then K ((C ^ k : Nat) : Int) else some (0, 0, 2) := by
    intro K
    by_cases hk : k = 0
    · subst hk
      obtain ⟨o, o1, o2⟩ := ref_common0 hg
      refine Eq.trans (congrArg (fun o => Option.bind o _) o1) ?_
      cases o with
      | inr r => exact o2.elim
      | inl s =>
        have : s = ((1 : Nat) : Int) := o2
        subst this
        rw [Option.bind_some]
        simp only [onL]
        rw [cnt?_le (by simp), Option.bind_some, Int.toNat_natCast, pow_loop 1 (by omega) (by decide)]
        rw [if_pos (by rw [Nat.one_pow]; decide), if_pos (by rw [Nat.pow_zero]; decide), Nat.one_pow, Nat.pow_zero]
        rfl
    · obtain ⟨o, o1, o2⟩ := ref_common hg (a2 := (k : Int)) (by omega)
      refine Eq.trans (congrArg (fun o => Option.bind o _) o1) ?_
      rw [hCC] at o2
      cases o with
      | inr r =>
        obtain ⟨rfl, hb⟩ := o2
        rw [if_neg (by omega)]; rfl
      | inl s =>
        obtain ⟨rfl, hb⟩ := o2
        rw [Option.bind_some]
        simp only [onL]
        rw [cnt?_le (by omega), Option.bind_some, Int.toNat_natCast, pow_loop C c1 c2]
        by_cases h : C ^ k ≤ maxDen
        · rw [if_pos h, if_pos h]; rfl
        · rw [if_neg h, if_neg h]; rfl
  by_cases hfit : C ^ k ≤ maxDen
  rotate_left
  · rw [if_neg hfit]
    refine ⟨(0, 0, 2), rfl, ?_, .inr ⟨hg, .inr ⟨k, rfl, by omega, .inl ⟨rfl, by rw [hCC]; omega⟩⟩⟩⟩
    rw [href, if_neg hfit]
  rw [if_pos hfit]
  simp only [Bool.not_true, Bool.false_eq_true, if_false]
  have hfit' : ((C ^ k : Nat) : Int) ≤ 1000000000000000 := by unfold maxDen at hfit; omega
  have hCk : 0 < C ^ k := Nat.pow_pos (by omega)
  have hR := rounds_ok (C := C) (k := k) hg (fun hk => hdiv hfit hk)
  have hRk := hR k (Nat.le_refl _)
  have hlen := hRk.1.len
  have hfin := finOf_ok (d := d) hRk.1 g.Edges.length (Nat.le_refl _)
  have hfl : (roundsM g.Edges d (start g.Edges.length ((C ^ k : Nat) : Int)) k).take g.Edges.length = roundsM g.Edges d (start g.Edges.length ((C ^ k : Nat) : Int)) k := List.take_of_length_le (by omega)
  rw [hfl, hRk.2] at hfin
  obtain ⟨num, hnum⟩ : ∃ num : Nat, (num : Int) = finOf d (roundsM g.Edges d (start g.Edges.length ((C ^ k : Nat) : Int)) k) g.Edges.length := ⟨(finOf d (roundsM g.Edges d (start g.Edges.length ((C ^ k : Nat) : Int)) k) g.Edges.length).toNat, by omega⟩
  have hgp : 0 < Nat.gcd num (C ^ k) := Nat.gcd_pos_of_pos_right _ hCk
  have hz : at? (List.replicate g.Edges.length (0 : Int)) 0 = some (ix 0 (List.replicate g.Edges.length (0 : Int)) 0) := at?_ix 0 (by omega) (by simp; omega)
  refine ⟨(((num / Nat.gcd num (C ^ k) : Nat) : Int), ((C ^ k / Nat.gcd num (C ^ k) : Nat) : Int), 0), ?_, ?_, .inr ⟨hg, .inr ⟨k, rfl, by omega, .inr ?_⟩⟩⟩
  rotate_left 2
  · rw [hCC]
    exact ⟨hfit, rfl, num, hnum, rfl, rfl⟩
  · rw [mk?_le (by omega) (by omega), Option.bind_some, Int.toNat_natCast, show d.length = g.Edges.length by omega, hz, Option.bind_some, cnt?_le (by omega), Option.bind_some, Int.toNat_natCast]
    obtain ⟨l, l1, l2⟩ := Tot.forS (σ := List Int) (k := k) (s := start g.Edges.length ((C ^ k : Nat) : Int)) (body := fun i20 s22 =>
       (mk? (s22.length : Int) 0).bind fun x407 =>
       (forS (σ := (List Int)) (fun i24 s26 =>
       (at? s22 (i24 : Int)).bind fun x474 =>
       (at? g.Edges (i24 : Int)).bind fun x475 =>
       (((((at? d (i24 : Int)).bind fun x481 =>
       if x481 == 0 then
       (some true)
       else
       (some ((x475.length : Int) == 0))) : Option (Bool)).bind fun v67 =>
       if v67 then
       ((at? s26 (i24 : Int)).bind fun x482 =>
       (at? s26 (i24 : Int)).bind fun x483 =>
       some (Sum.inr (s26.set ((i24 : Int)).toNat (w64 (x482 + x474)))))
       else
       (some (Sum.inl ()))) : Option (Unit ⊕ _)).bind fun ov66 => onL ov66 fun v66 =>
       (forS (σ := (List Int)) (fun i25 s27 =>
       (at? x475 (i25 : Int)).bind fun x493 =>
       (at? s27 x493.To).bind fun x494 =>
       (dv x474 (x475.length : Int)).bind fun x495 =>
       some (s27.set (x493.To).toNat (w64 (x494 + x495)))) x475.length 0 s26).bind fun out27 =>
       some out27) s22.length 0 x407).bind fun out26 =>
       some out26) (fun j l => l = roundsM g.Edges d (start g.Edges.length ((C ^ k : Nat) : Int)) j) rfl (by
        intro j l hj hl
        subst hl
        have ⟨a, b⟩ := hR j (by omega)
        rw [show k - j = (k - (j + 1)) + 1 by omega, Nat.pow_succ, Nat.mul_comm] at a
        have := (both_round hg (hdiv hfit (by omega)) a (by rw [b]; exact hfit')).1
        exact ⟨_, this, (roundsM_succ _ _ _ _).symm⟩)
    subst l2
    refine Eq.trans (congrArg (fun o => Option.bind o _) l1) ?_
    rw [Option.bind_some, hlen]
    obtain ⟨s, s1, s2⟩ := Tot.forS (σ := Int) (k := g.Edges.length) (s := 0) (body := fun i26 s28 =>
       (at? (roundsM g.Edges d (start g.Edges.length ((C ^ k : Nat) : Int)) k) (i26 : Int)).bind fun x502 =>
       (at? d (i26 : Int)).bind fun x503 =>
       if x503 == 0 then
       (some (w64 (s28 + x502)))
       else
       (some s28)) (fun j s => s = finOf d (roundsM g.Edges d (start g.Edges.length ((C ^ k : Nat) : Int)) k) j) rfl (by
        intro j s hj hs
        subst hs
        have hatd : at? d (j : Int) = some (dA d j) := at?_ix 0 (by omega) (by omega)
        have h7 := (finOf_ok (d := d) hRk.1 j (by omega))
        have h8 := take_sum_le hRk.1.nn j
        have h9 := hRk.1.ix (q := (j : Int)) (by omega) (by omega)
        rw [hRk.2] at h8 h9
        rw [at?_ix 0 (by omega) (by omega), Option.bind_some, hatd, Option.bind_some]
        refine Tot.mono (P := fun r => r = finOf d (roundsM g.Edges d (start g.Edges.length ((C ^ k : Nat) : Int)) k) (j + 1)) ?_ (fun a h => h)
        rw [finOf_succ]
        by_cases h : dA d (j : Int) = 0
        · rw [if_pos (by simpa using h), if_pos h, w64_eq (by omega) (by omega)]; exact Tot.pure rfl
        · rw [if_neg (by simpa using h), if_neg h, Int.add_zero]; exact Tot.pure rfl)
    subst s2
    refine Eq.trans (congrArg (fun o => Option.bind o _) s1) ?_
    rw [Option.bind_some, ← hnum, F54_eq, Option.bind_some, dv_nat hgp (by omega), Option.bind_some, dv_nat hgp (by omega), Option.bind_some]
  · have hmk : mk? (d.length : Int) (0 : Int) = some (List.replicate g.Edges.length 0) := by
      rw [mk?_le (by omega) (by omega), Int.toNat_natCast, show d.length = g.Edges.length by omega]
    rw [href, if_pos hfit, hmk, Option.bind_some, hz, Option.bind_some, cnt?_le (by omega), Option.bind_some, Int.toNat_natCast]
    obtain ⟨l, l1, l2⟩ := Tot.forS (σ := List Int) (k := k) (s := start g.Edges.length ((C ^ k : Nat) : Int)) (body := fun i18 s20 =>
       (mk? (d.length : Int) 0).bind fun x374 =>
       (forS (σ := (List Int)) (fun i22 s24 =>
       (at? g.Edges (i22 : Int)).bind fun x462 =>
       (((((at? d (i22 : Int)).bind fun x468 =>
       if x468 == 0 then
       (some true)
       else
       (some ((x462.length : Int) == 0))) : Option (Bool)).bind fun v52 =>
       if v52 then
       ((at? s24 (i22 : Int)).bind fun x469 =>
       (at? s20 (i22 : Int)).bind fun x470 =>
       some (Sum.inr (s24.set ((i22 : Int)).toNat (w64 (x469 + x470)))))
       else
       (some (Sum.inl ()))) : Option (Unit ⊕ _)).bind fun ov51 => onL ov51 fun v51 =>
       (forS (σ := (List Int)) (fun i23 s25 =>
       (at? g.Edges (i22 : Int)).bind fun x486 =>
       (at? x486 (i23 : Int)).bind fun x487 =>
       (at? s25 x487.To).bind fun x488 =>
       (at? s20 (i22 : Int)).bind fun x489 =>
       (dv x489 (x462.length : Int)).bind fun x490 =>
       some (s25.set (x487.To).toNat (w64 (x488 + x490)))) x462.length 0 s24).bind fun out23 =>
       some out23) d.length 0 x374).bind fun out22 =>
       some out22) (fun j l => l = roundsM g.Edges d (start g.Edges.length ((C ^ k : Nat) : Int)) j) rfl (by
        intro j l hj hl
        subst hl
        have ⟨a, b⟩ := hR j (by omega)
        rw [show k - j = (k - (j + 1)) + 1 by omega, Nat.pow_succ, Nat.mul_comm] at a
        have := (both_round hg (hdiv hfit (by omega)) a (by rw [b]; exact hfit')).2
        exact ⟨_, this, (roundsM_succ _ _ _ _).symm⟩)
    subst l2
    rw [hmk] at l1
    refine Eq.trans (congrArg (fun o => Option.bind o _) l1) ?_
    rw [Option.bind_some]
    obtain ⟨s, s1, s2⟩ := Tot.forS (σ := Int) (k := d.length) (s := 0) (body := fun i24 s26 =>
       (at? d (i24 : Int)).bind fun x497 =>
       if x497 == 0 then
       ((at? (roundsM g.Edges d (start g.Edges.length ((C ^ k : Nat) : Int)) k) (i24 : Int)).bind fun x498 =>
       some (w64 (s26 + x498)))
       else
       (some s26)) (fun j s => s = finOf d (roundsM g.Edges d (start g.Edges.length ((C ^ k : Nat) : Int)) k) j) rfl (by
        intro j s hj hs
        subst hs
        have hatd : at? d (j : Int) = some (dA d j) := at?_ix 0 (by omega) (by omega)
        have h7 := (finOf_ok (d := d) hRk.1 j (by omega))
        have h8 := take_sum_le hRk.1.nn j
        have h9 := hRk.1.ix (q := (j : Int)) (by omega) (by omega)
        rw [hRk.2] at h8 h9
        rw [hatd, Option.bind_some, at?_ix 0 (by omega) (by omega), Option.bind_some]
        refine Tot.mono (P := fun r => r = finOf d (roundsM g.Edges d (start g.Edges.length ((C ^ k : Nat) : Int)) k) (j + 1)) ?_ (fun a h => h)
        rw [finOf_succ]
        by_cases h : dA d (j : Int) = 0
        · rw [if_pos (by simpa using h), if_pos h, w64_eq (by omega) (by omega)]; exact Tot.pure rfl
        · rw [if_neg (by simpa using h), if_neg h, Int.add_zero]; exact Tot.pure rfl)
    rw [show d.length = g.Edges.length by omega] at s2 s1
    subst s2
    rw [show d.length = g.Edges.length by omega]
    refine Eq.trans (congrArg (fun o => Option.bind o _) s1) ?_
    rw [Option.bind_some, ← hnum, F55_eq, Nat.gcd_comm, Option.bind_some, dv_nat hgp (by omega), Option.bind_some, dv_nat hgp (by omega), Option.bind_some]
theorem F12_law (g : Graph) (d : List Int) (a2 : Int) : F12 g d a2 = some true := by
  unfold F12
  obtain ⟨b, hb, _⟩ := F15_spec g
  rw [hb, Option.bind_some, F17_eq]
  cases b with
  | true => rfl
  | false =>
    obtain ⟨r, h1, h2, _⟩ := F36_F37 g d a2
    simp only [Bool.false_eq_true, if_false, h1, h2, Option.bind_some, beq_self_eq_true, if_true]
end
end Go.Proofs.Ytogfongmnkmegaa.Pad
