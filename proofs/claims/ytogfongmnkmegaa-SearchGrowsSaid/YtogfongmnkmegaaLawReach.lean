/- The positions that can be reached. -/
import Derived.Test.YtogfongmnkmegaaLawWrong
set_option linter.unusedVariables false
namespace Go.Proofs.Ytogfongmnkmegaa.Pad
open Go Go.Proofs

def knAll (E : List (List Edge)) (p i : Int) : Bool := decide (0 ≤ p ∧ p < E.length) && decide (0 ≤ i ∧ i < (rowOf E p).length)
theorem knAll_iff {E : List (List Edge)} {p i : Int} : knAll E p i = true ↔ (0 ≤ p ∧ p < E.length) ∧ 0 ≤ i ∧ i < (rowOf E p).length := by
  unfold knAll; simp only [Bool.and_eq_true, decide_eq_true_eq]
theorem knAll_ok (E : List (List Edge)) : KnOk E (knAll E) := by
  intro p i h
  have := knAll_iff.1 h
  exact ⟨this.1.1, this.1.2, this.2.1, this.2.2⟩
def Reach (E : List (List Edge)) (q : Int) : Prop := ∃ k, Wk E (knAll E) k 0 q
theorem Reach.next {E : List (List Edge)} {q i : Int} (h : Reach E q) (hk : knAll E q i = true) : Reach E (nx E q i) := by
  obtain ⟨k, h⟩ := h
  exact ⟨k + 1, h.snoc hk⟩
def ReachIs (E : List (List Edge)) (out : List Bool) : Prop := out.length = E.length ∧ ∀ q : Nat, q < E.length → (ix false out q = true ↔ Reach E q)
theorem ReachIs.uniq {E : List (List Edge)} {l l' : List Bool} (h : ReachIs E l) (h' : ReachIs E l') : l = l' := by
  apply List.ext_getElem (by rw [h.1, h'.1])
  intro i a b
  have h1 := h.2 i (by rw [← h.1]; exact a)
  have h2 := h'.2 i (by rw [← h.1]; exact a)
  rw [ix_nat false a] at h1
  rw [ix_nat false b] at h2
  rw [Bool.eq_iff_iff, h1, h2]
def cntB (n : Nat) (l : List Bool) : Nat := (List.range n).countP (fun q : Nat => ix false l (q : Int))
theorem cntB_le (n : Nat) (l : List Bool) : cntB n l ≤ n := by
  have := List.countP_le_length (l := List.range n) (p := fun q : Nat => ix false l (q : Int))
  simpa [cntB] using this
theorem cntB_set {n r : Nat} {l : List Bool} (hl : l.length = n) (hr : r < n) (h : ix false l (r : Int) = false) : cntB n (l.set r true) = cntB n l + 1 := by
  unfold cntB
  refine countP_insert _ _ r h (by rw [ix_set _ _ _ _ _ (by omega), if_pos rfl]) (fun q hq => by rw [ix_set _ _ _ _ _ (by omega), if_neg hq]) n hr
/-- What is seen, and what is to be gone through. -/
structure RB (E : List (List Edge)) (S : List Bool) (Q : List Int) : Prop where
  len : S.length = E.length
  zero : ix false S 0 = true
  sound : ∀ q : Nat, q < E.length → ix false S q = true → Reach E q
  qin : ∀ q ∈ Q, (0 ≤ q ∧ q < E.length) ∧ ix false S q = true
structure RO (E : List (List Edge)) (S : List Bool) (Q : List Int) : Prop extends RB E S Q where
  cl : ∀ q : Int, 0 ≤ q → q < E.length → ix false S q = true → q ∉ Q → ∀ i, knAll E q i = true → ix false S (nx E q i) = true
structure RI (E : List (List Edge)) (S : List Bool) (x : Int) (t : List Int) (j : Nat) (S' : List Bool) (N : List Int) : Prop extends RB E S' (x :: t ++ N) where
  sup : ∀ q : Int, ix false S q = true → ix false S' q = true
  new : ∀ q : Int, ix false S' q = true → ix false S q = false → q ∈ N
  dn : ∀ i : Nat, i < j → ix false S' (nx E x i) = true
theorem ix_set' {α : Type} (z : α) (l : List α) (i p : Int) (v : α) (h0 : 0 ≤ i) (h : i < l.length) (hp : 0 ≤ p) : ix z (l.set i.toNat v) p = if p = i then v else ix z l p := by
  have := ix_set z l i.toNat v p.toNat (by omega)
  rw [show ((p.toNat : Nat) : Int) = p by omega] at this
  rw [this]
  by_cases e : p = i
  · rw [if_pos (by omega), if_pos e]
  · rw [if_neg (by omega), if_neg e]
theorem ix_neg {α : Type} (z : α) (l : List α) (p : Int) (hp : ¬ 0 ≤ p) : ix z l p = ix z l 0 := by
  unfold ix; rw [show p.toNat = 0 by omega]; rfl
theorem ix_out {α : Type} (z : α) (l : List α) (p : Int) (hp : l.length ≤ p) : ix z l p = z := by
  unfold ix; rw [List.getElem?_eq_none (by omega)]; rfl

section
variable {g : Graph} {d : List Int}
theorem F66_edges (hg : GoodMap g d) {S : List Bool} {x : Int} {t : List Int} {i : Nat} (hB : RO g.Edges S (x :: t)) (hc : cntB g.Edges.length S = i + (x :: t).length) :
    Tot (forS (σ := (List Bool × List Int)) (fun i7 s8 =>
 (at? (rowOf g.Edges x) (i7 : Int)).bind fun x131 =>
 (at? s8.1 x131.To).bind fun x132 =>
 if !x132 then
 ((at? s8.1 x131.To).bind fun x133 =>
 (push? s8.2 ([x131.To] : List Int)).bind fun x134 =>
 some (s8.1.set (x131.To).toNat true, x134))
 else
 (some (s8.1, s8.2))) (rowOf g.Edges x).length 0 (S, x :: t)) (fun s => ∃ N, s.2 = x :: t ++ N ∧ RI g.Edges S x t (rowOf g.Edges x).length s.1 N ∧ cntB g.Edges.length s.1 = i + s.2.length) := by
  have hel := hg.el; have hn2 := hg.n2; have hdl := hg.dl
  have ⟨hxr, hxs⟩ := hB.qin x (by simp)
  refine Tot.forS (fun j (s : List Bool × List Int) => ∃ N, s.2 = x :: t ++ N ∧ RI g.Edges S x t j s.1 N ∧ cntB g.Edges.length s.1 = i + s.2.length) ?_ ?_
  · refine ⟨[], by simp, { len := hB.len, zero := hB.zero, sound := hB.sound, qin := by simpa using hB.qin, sup := fun q h => h, new := fun q h1 h2 => ?_, dn := fun i h => by omega }, hc⟩
    simp only at h1 h2
    rw [h1] at h2; cases h2
  · rintro j ⟨S', Q'⟩ hj ⟨N, hQ, hI, hcn⟩
    simp only at hQ hI hcn ⊢
    subst hQ
    have hto := hg.to hxr (List.getElem_mem hj)
    have hnx : (rowOf g.Edges x)[j].To = nx g.Edges x j := by unfold nx; rw [ix_nat z0 hj]
    rw [at?_lt hj, Option.bind_some, hnx]
    rw [hnx] at hto
    have hlen := hI.len
    have hka : knAll g.Edges x j = true := knAll_iff.2 ⟨hxr, by omega, by omega⟩
    have hat : at? S' (nx g.Edges x j) = some (ix false S' (nx g.Edges x j)) := at?_ix false hto.1 (by omega)
    rw [hat, Option.bind_some]
    cases hv : ix false S' (nx g.Edges x j) with
    | true =>
      simp only [Bool.not_true, Bool.false_eq_true, if_false]
      refine Tot.pure ⟨N, rfl, { hI with dn := ?_ }, hcn⟩
      intro i hi
      by_cases e : i = j
      · subst e; exact hv
      · exact hI.dn i (by omega)
    | false =>
      have hle : (x :: t ++ N).length ≤ 300 := by have := cntB_le g.Edges.length S'; omega
      simp only [Bool.not_false, if_true, Option.bind_some]
      rw [push?_le (by simp only [List.length_singleton]; omega), Option.bind_some]
      have hset : ∀ q : Int, ix false (S'.set (nx g.Edges x j).toNat true) q = if 0 ≤ q ∧ q = nx g.Edges x j then true else ix false S' q := by
        intro q
        by_cases hq : 0 ≤ q
        · rw [ix_set' _ _ _ _ _ hto.1 (by omega) hq]
          by_cases e : q = nx g.Edges x j
          · rw [if_pos e, if_pos ⟨hq, e⟩]
          · rw [if_neg e, if_neg (fun h => e h.2)]
        · rw [if_neg (fun h => hq h.1), ix_neg _ _ _ hq, ix_neg false S' _ hq, ix_set' _ _ _ _ _ hto.1 (by omega) (by omega)]
          split
          · rw [hI.zero]
          · rfl
      have hmono : ∀ q : Int, ix false S' q = true → ix false (S'.set (nx g.Edges x j).toNat true) q = true := by
        intro q hq
        rw [hset]; split
        · rfl
        · exact hq
      have hcs := cntB_set (n := g.Edges.length) (r := (nx g.Edges x j).toNat) (l := S') hlen (by omega) (by rw [show (((nx g.Edges x j).toNat : Nat) : Int) = nx g.Edges x j by omega]; exact hv)
      refine Tot.pure ⟨N ++ [nx g.Edges x j], by simp, { len := by simp [hlen], zero := hmono 0 hI.zero, sound := ?_, qin := ?_, sup := fun q h => hmono q (hI.sup q h), new := ?_, dn := ?_ }, ?_⟩
      · intro q hq h
        rw [hset] at h
        split at h
        · rename_i e
          have hxr' : Reach g.Edges x := by
            have := hB.sound x.toNat (by omega)
            rw [show ((x.toNat : Nat) : Int) = x by omega] at this
            exact this hxs
          rw [e.2]; exact hxr'.next hka
        · exact hI.sound q hq h
      · intro q hm
        rw [← List.append_assoc] at hm
        rcases List.mem_append.1 hm with hm | hm
        · exact ⟨(hI.qin q hm).1, hmono q (hI.qin q hm).2⟩
        · rw [List.mem_singleton] at hm
          subst hm
          exact ⟨⟨hto.1, by omega⟩, by rw [hset, if_pos ⟨hto.1, rfl⟩]⟩
      · intro q h1 h2
        rw [hset] at h1
        split at h1
        · rename_i e; rw [e.2]; simp
        · simp [hI.new q h1 h2]
      · intro i hi
        by_cases e : i = j
        · subst e; rw [hset, if_pos ⟨hto.1, rfl⟩]
        · exact hmono _ (hI.dn i (by omega))
      · simp only
        rw [hcs, hcn]; simp; omega
theorem F66_spec (hg : GoodMap g d) : Tot (F66 ⟨g.Edges, d⟩) (ReachIs g.Edges) := by
  have hel := hg.el; have hn2 := hg.n2; have hn1 := hg.n1; have hdl := hg.dl
  unfold F66
  rw [mk?_le (by simp only; omega) (by simp only; omega), Option.bind_some, at?_ix false (by omega) (by simp; omega), Option.bind_some]
  simp only [Int.toNat_natCast]
  have h0 : ∀ q : Nat, ix false (List.replicate g.Edges.length false) (q : Int) = false := by
    intro q
    by_cases hq : q < g.Edges.length
    · rw [ix_nat false (by simpa using hq)]; simp
    · rw [ix_out _ _ _ (by simp; omega)]
  have h00 : (0 : Int).toNat = 0 := rfl
  refine Tot.bind (fun s : List Bool × List Int => RO g.Edges s.1 []) ?_ ?_
  · refine whileO_inv (fun i (s : List Bool × List Int) => RO g.Edges s.1 s.2 ∧ cntB g.Edges.length s.1 = i + s.2.length) (fun s : List Bool × List Int => RO g.Edges s.1 []) (g.Edges.length + 1) 0 ((List.replicate g.Edges.length false).set (0 : Int).toNat true, ([0] : List Int)) ?_ ?_ ?_
    · have hs : ∀ q : Nat, ix false ((List.replicate g.Edges.length false).set (0 : Int).toNat true) (q : Int) = if q = 0 then true else false := by
        intro q
        rw [h00, ix_set _ _ _ _ _ (by simp; omega), h0]
      have hs0 := hs 0
      simp only [if_true] at hs0
      refine ⟨{ len := by simp, zero := hs0, sound := ?_, qin := ?_, cl := ?_ }, ?_⟩
      · intro q hq h
        simp only at h
        rw [hs] at h
        by_cases e : q = 0
        · subst e; exact ⟨0, .nil _⟩
        · rw [if_neg e] at h; cases h
      · intro q hq
        simp only [List.mem_singleton] at hq
        subst hq
        exact ⟨⟨by omega, by omega⟩, hs0⟩
      · intro q q0 q1 h hn
        simp only at h hn
        have h2 := hs q.toNat
        rw [show ((q.toNat : Nat) : Int) = q by omega] at h2
        rw [h2, if_neg (by intro e; exact hn (by simp; omega))] at h
        cases h
      · simp only
        rw [h00, cntB_set (by simp) (by omega) (h0 0)]
        have : cntB g.Edges.length (List.replicate g.Edges.length false) = 0 := by
          unfold cntB
          apply List.countP_eq_zero.2
          intro q _
          rw [h0]; simp
        rw [this]; rfl
    · rintro i ⟨S, Q⟩ _ hi ⟨hB, hc⟩
      simp only at hB hc ⊢
      cases Q with
      | nil => right; exact ⟨(S, []), by simp, hB⟩
      | cons x t =>
        left
        have ⟨hxr, _⟩ := hB.qin x (by simp)
        have hat : at? g.Edges x = some (rowOf g.Edges x) := at?_ix [] hxr.1 hxr.2
        have hx0 : at? (x :: t) 0 = some x := rfl
        obtain ⟨s, h1, N, h2, h3, h4⟩ := F66_edges hg hB hc
        obtain ⟨S', Q'⟩ := s
        simp only at h2 h3 h4
        refine ⟨(S', t ++ N), ?_, ⟨⟨h3.len, h3.zero, h3.sound, fun q hq => h3.qin q (by simp only [List.cons_append, List.mem_cons]; exact .inr hq)⟩, ?_⟩, ?_⟩
        · rw [if_pos (by simp), hx0, Option.bind_some, hat, Option.bind_some]
          rw [h1, Option.bind_some]
          simp only
          rw [h2, List.cons_append, sub?_tail, Option.bind_some]
        · intro q q0 q1 hs hn i' hi'
          simp only [List.mem_append, not_or] at hn
          by_cases hqx : q = x
          · subst hqx
            have := knAll_iff.1 hi'
            have := h3.dn i'.toNat (by omega)
            rw [show ((i'.toNat : Nat) : Int) = i' by omega] at this
            exact this
          · cases hv : ix false S q with
            | true => exact h3.sup _ (hB.cl q q0 q1 hv (by simp [hqx, hn.1]) i' hi')
            | false => exact (hn.2 (h3.new q hs hv)).elim
        · simp only
          rw [h4, h2]; simp; omega
    · rintro ⟨S, Q⟩ ⟨hB, hc⟩
      simp only at hc
      exfalso
      have := cntB_le g.Edges.length S
      omega
  rintro ⟨S, Q⟩ hB
  simp only at hB ⊢
  refine Tot.pure ⟨hB.len, fun q hq => ⟨hB.sound q hq, ?_⟩⟩
  rintro ⟨k, hw⟩
  have key : ∀ (k : Nat) (q : Int), Wk g.Edges (knAll g.Edges) k 0 q → (0 ≤ q ∧ q < g.Edges.length) ∧ ix false S q = true := by
    intro k
    induction k with
    | zero => intro q hw; rw [← hw.zero]; exact ⟨⟨by omega, by omega⟩, hB.zero⟩
    | succ k ih =>
      intro q hw
      obtain ⟨r, i, h1, h2, rfl⟩ := hw.unsnoc
      obtain ⟨h3, h4⟩ := ih r h1
      have := knAll_iff.1 h2
      exact ⟨hg.edges _ _ h3.1 h3.2 this.2.1 this.2.2, hB.cl r h3.1 h3.2 h4 (by simp) i h2⟩
  exact (key k q hw).2

/-! ## The reference: rounds over all positions -/
def SeenOk (E : List (List Edge)) (S : List Bool) : Prop := S.length = E.length ∧ ∀ q : Nat, q < E.length → ix false S q = true → Reach E q
def Sup (S S' : List Bool) : Prop := ∀ q : Nat, ix false S q = true → ix false S' q = true
theorem Sup.refl (S : List Bool) : Sup S S := fun _ h => h
theorem Sup.trans {S T U : List Bool} (h : Sup S T) (h' : Sup T U) : Sup S U := fun q hq => h' q (h q hq)
theorem Sup.int {S T : List Bool} (h : Sup S T) {q : Int} (hq : 0 ≤ q) (hs : ix false S q = true) : ix false T q = true := by
  have := h q.toNat
  rw [show ((q.toNat : Nat) : Int) = q by omega] at this
  exact this hs
def succsIn (E : List (List Edge)) (S : List Bool) (p : Int) : Prop := ∀ i, knAll E p i = true → ix false S (nx E p i) = true
theorem reach_pos (hg : GoodMap g d) {p : Nat} (hp : p < g.Edges.length) {S : List Bool} (hS : SeenOk g.Edges S) :
    Tot (whileO (σ := (List Bool × Int)) (ρ := (List Bool × Int)) (fun s57 =>
 (((at? g.Edges (p : Int)).bind fun x2399 =>
 if decide (s57.2 < (x2399.length : Int)) then
 ((at? s57.1 (p : Int)).bind fun x2400 =>
 if x2400 then
 (some (Sum.inl ()))
 else
 (some (Sum.inr (Sum.inr (s57.1, s57.2)))))
 else
 (some (Sum.inr (Sum.inr (s57.1, s57.2))))) : Option (Unit ⊕ _)).bind fun ov343 => onL ov343 fun v343 =>
 (at? g.Edges (p : Int)).bind fun x2401 =>
 (at? x2401 s57.2).bind fun x2402 =>
 (at? s57.1 x2402.To).bind fun x2403 =>
 some (Sum.inl (s57.1.set (x2402.To).toNat true, w64 (s57.2 + 1)))) (S, 0)) (fun r => SeenOk g.Edges r.1 ∧ Sup S r.1 ∧ (ix false S p = true → succsIn g.Edges r.1 p)) := by
  have hel := hg.el; have hn2 := hg.n2; have hdl := hg.dl
  have hatE : at? g.Edges (p : Int) = some (rowOf g.Edges p) := at?_ix [] (by omega) (by omega)
  have hlen := hg.len (p := (p : Int)) (by omega)
  have hatS : ∀ S', SeenOk g.Edges S' → at? S' (p : Int) = some (ix false S' p) := fun S' h => at?_ix false (by omega) (by rw [h.1]; omega)
  cases hps : ix false S (p : Int) with
  | false =>
    refine ⟨(S, 0), whileO_inr ?_, hS, Sup.refl S, fun h => by cases h⟩
    simp only
    rw [hatE, Option.bind_some, hatS S hS, hps]
    by_cases h0 : (0 : Int) < (rowOf g.Edges (p : Int)).length
    · rw [if_pos (by simpa using h0)]; rfl
    · rw [if_neg (by simpa using h0)]; rfl
  | true =>
    have hpr : Reach g.Edges p := hS.2 p hp hps
    refine whileO_inv (fun i (s : List Bool × Int) => s.2 = i ∧ i ≤ (rowOf g.Edges (p : Int)).length ∧ SeenOk g.Edges s.1 ∧ Sup S s.1 ∧ ∀ k : Nat, k < i → ix false s.1 (nx g.Edges p k) = true)
      (fun r : List Bool × Int => SeenOk g.Edges r.1 ∧ Sup S r.1 ∧ (true = true → succsIn g.Edges r.1 p)) (rowOf g.Edges (p : Int)).length 0 (S, (0 : Int)) ⟨rfl, by omega, hS, Sup.refl S, fun k h => by omega⟩ ?_ ?_
    · rintro i ⟨S', t⟩ _ hi ⟨h1, h2, h3, h4, h5⟩
      simp only at h1 h3 h4 h5 ⊢
      subst h1
      have hi' : i < (rowOf g.Edges (p : Int)).length := by omega
      left
      rw [hatE, Option.bind_some, if_pos (by simpa using hi'), hatS S' h3, h4 p hps]
      simp only [Option.bind_some, if_true, onL]
      have hto := hg.to (p := (p : Int)) (by omega) (List.getElem_mem hi')
      have hnx : (rowOf g.Edges (p : Int))[i].To = nx g.Edges p i := by unfold nx; rw [ix_nat z0 hi']
      rw [at?_lt hi', Option.bind_some, hnx]
      rw [hnx] at hto
      have hl := h3.1
      have hka : knAll g.Edges p i = true := knAll_iff.2 ⟨⟨by omega, by omega⟩, by omega, by omega⟩
      rw [at?_ix false hto.1 (by omega), Option.bind_some]
      have hset : ∀ q : Nat, ix false (S'.set (nx g.Edges p i).toNat true) (q : Int) = if q = (nx g.Edges p i).toNat then true else ix false S' q := fun q => ix_set _ _ _ _ _ (by omega)
      have hsup : Sup S' (S'.set (nx g.Edges p i).toNat true) := by
        intro q hq; rw [hset]; split
        · rfl
        · exact hq
      have hself : ix false (S'.set (nx g.Edges p i).toNat true) (nx g.Edges p i) = true := by
        have := hset (nx g.Edges p i).toNat
        rw [show (((nx g.Edges p i).toNat : Nat) : Int) = nx g.Edges p i by omega, if_pos rfl] at this
        exact this
      refine ⟨_, rfl, by simp only; rw [w64_eq (by omega) (by omega)]; omega, by omega, ⟨by simp [h3.1], ?_⟩, h4.trans hsup, ?_⟩
      · intro q hq h
        simp only at h
        rw [hset] at h
        split at h
        · rename_i e
          rw [e, show (((nx g.Edges p i).toNat : Nat) : Int) = nx g.Edges p i by omega]
          exact hpr.next hka
        · exact h3.2 q hq h
      · intro k hk
        by_cases e : k = i
        · subst e; exact hself
        · have hkl : (k : Int) < (rowOf g.Edges (p : Int)).length := by omega
          have := hg.edges (p : Int) k (by omega) (by omega) (by omega) hkl
          exact hsup.int this.1 (h5 k (by omega))
    · rintro ⟨S', t⟩ ⟨h1, h2, h3, h4, h5⟩
      simp only at h1 h3 h4 h5 ⊢
      rw [hatE, Option.bind_some, if_neg (by simp; omega)]
      refine ⟨_, rfl, h3, h4, fun _ i hi => ?_⟩
      have := knAll_iff.1 hi
      have h6 := h5 i.toNat (by omega)
      rw [show ((i.toNat : Nat) : Int) = i by omega] at h6
      exact h6
theorem reach_round (hg : GoodMap g d) {S : List Bool} (hS : SeenOk g.Edges S) :
    Tot (whileO (σ := (List Bool × Int)) (ρ := (List Bool × Int)) (fun s56 =>
 if decide (s56.2 < (s56.1.length : Int)) then
 ((whileO (σ := (List Bool × Int)) (ρ := (List Bool × Int)) (fun s57 =>
 (((at? g.Edges s56.2).bind fun x2399 =>
 if decide (s57.2 < (x2399.length : Int)) then
 ((at? s57.1 s56.2).bind fun x2400 =>
 if x2400 then
 (some (Sum.inl ()))
 else
 (some (Sum.inr (Sum.inr (s57.1, s57.2)))))
 else
 (some (Sum.inr (Sum.inr (s57.1, s57.2))))) : Option (Unit ⊕ _)).bind fun ov343 => onL ov343 fun v343 =>
 (at? g.Edges s56.2).bind fun x2401 =>
 (at? x2401 s57.2).bind fun x2402 =>
 (at? s57.1 x2402.To).bind fun x2403 =>
 some (Sum.inl (s57.1.set (x2402.To).toNat true, w64 (s57.2 + 1)))) (s56.1, 0)).bind fun out57 =>
 some (Sum.inl (out57.1, w64 (s56.2 + 1))))
 else
 (some (Sum.inr (s56.1, s56.2)))) (S, 0)) (fun r => SeenOk g.Edges r.1 ∧ Sup S r.1 ∧ ∀ p : Nat, p < g.Edges.length → ix false S p = true → succsIn g.Edges r.1 p) := by
  have hel := hg.el; have hn2 := hg.n2; have hdl := hg.dl
  refine whileO_inv (fun j (s : List Bool × Int) => s.2 = j ∧ j ≤ g.Edges.length ∧ SeenOk g.Edges s.1 ∧ Sup S s.1 ∧ ∀ p : Nat, p < j → ix false S p = true → succsIn g.Edges s.1 p)
    (fun r : List Bool × Int => SeenOk g.Edges r.1 ∧ Sup S r.1 ∧ ∀ p : Nat, p < g.Edges.length → ix false S p = true → succsIn g.Edges r.1 p) g.Edges.length 0 (S, (0 : Int)) ⟨rfl, by omega, hS, Sup.refl S, fun p h => by omega⟩ ?_ ?_
  · rintro j ⟨S', t⟩ _ hj ⟨h1, h2, h3, h4, h5⟩
    simp only at h1 h3 h4 h5 ⊢
    subst h1
    left
    have hl := h3.1
    obtain ⟨r, a, b1, b2, b3⟩ := reach_pos hg (p := j) (by omega) h3
    rw [if_pos (by simp; omega), a, Option.bind_some]
    refine ⟨_, rfl, by simp only; rw [w64_eq (by omega) (by omega)]; omega, by omega, b1, h4.trans b2, ?_⟩
    intro p hp hs
    by_cases e : p = j
    · subst e; exact b3 (h4 p hs)
    · intro i hi
      have := knAll_iff.1 hi
      have := hg.edges _ _ this.1.1 this.1.2 this.2.1 this.2.2
      exact b2.int this.1 (h5 p (by omega) hs i hi)
  · rintro ⟨S', t⟩ ⟨h1, h2, h3, h4, h5⟩
    simp only at h1 h3 h4 h5 ⊢
    have hl := h3.1
    rw [if_neg (by simp; omega)]
    exact ⟨_, rfl, h3, h4, fun p hp => h5 p (by omega)⟩
theorem reach_all (hg : GoodMap g d) : Tot (whileO (σ := (List Bool × Int)) (ρ := (List Bool × Int)) (fun s49 =>
 if decide (s49.2 < (s49.1.length : Int)) then
 ((whileO (σ := (List Bool × Int)) (ρ := (List Bool × Int)) (fun s56 =>
 if decide (s56.2 < (s56.1.length : Int)) then
 ((whileO (σ := (List Bool × Int)) (ρ := (List Bool × Int)) (fun s57 =>
 (((at? g.Edges s56.2).bind fun x2399 =>
 if decide (s57.2 < (x2399.length : Int)) then
 ((at? s57.1 s56.2).bind fun x2400 =>
 if x2400 then
 (some (Sum.inl ()))
 else
 (some (Sum.inr (Sum.inr (s57.1, s57.2)))))
 else
 (some (Sum.inr (Sum.inr (s57.1, s57.2))))) : Option (Unit ⊕ _)).bind fun ov343 => onL ov343 fun v343 =>
 (at? g.Edges s56.2).bind fun x2401 =>
 (at? x2401 s57.2).bind fun x2402 =>
 (at? s57.1 x2402.To).bind fun x2403 =>
 some (Sum.inl (s57.1.set (x2402.To).toNat true, w64 (s57.2 + 1)))) (s56.1, 0)).bind fun out57 =>
 some (Sum.inl (out57.1, w64 (s56.2 + 1))))
 else
 (some (Sum.inr (s56.1, s56.2)))) (s49.1, 0)).bind fun out56 =>
 some (Sum.inl (out56.1, w64 (s49.2 + 1))))
 else
 (some (Sum.inr (s49.1, s49.2)))) ((List.replicate g.Edges.length false).set (0 : Int).toNat true, 0)) (fun r => ReachIs g.Edges r.1) := by
  have hel := hg.el; have hn2 := hg.n2; have hdl := hg.dl; have hn1 := hg.n1
  have h0 : ∀ q : Nat, ix false ((List.replicate g.Edges.length false).set (0 : Int).toNat true) (q : Int) = if q = 0 then true else false := by
    intro q
    rw [show (0 : Int).toNat = 0 from rfl, ix_set _ _ _ _ _ (by simp; omega)]
    congr 1
    by_cases hq : q < g.Edges.length
    · rw [ix_nat false (by simpa using hq)]; simp
    · rw [ix_out _ _ _ (by simp; omega)]
  refine whileO_inv (fun j (s : List Bool × Int) => s.2 = j ∧ j ≤ g.Edges.length ∧ SeenOk g.Edges s.1 ∧ ∀ (k : Nat) (q : Int), k ≤ j → Wk g.Edges (knAll g.Edges) k 0 q → ix false s.1 q = true)
    (fun r : List Bool × Int => ReachIs g.Edges r.1) g.Edges.length 0 ((List.replicate g.Edges.length false).set (0 : Int).toNat true, (0 : Int)) ⟨rfl, by omega, ⟨by simp, ?_⟩, ?_⟩ ?_ ?_
  · intro q hq h
    simp only at h
    rw [h0] at h
    by_cases e : q = 0
    · subst e; exact ⟨0, .nil _⟩
    · rw [if_neg e] at h; cases h
  · intro k q hk hw
    have : k = 0 := by omega
    subst this
    rw [← hw.zero]
    exact h0 0
  · rintro j ⟨S', t⟩ _ hj ⟨h1, h2, h3, h4⟩
    simp only at h1 h3 h4 ⊢
    subst h1
    left
    have hl := h3.1
    obtain ⟨r, a, b1, b2, b3⟩ := reach_round hg h3
    rw [if_pos (by simp; omega), a, Option.bind_some]
    refine ⟨_, rfl, by simp only; rw [w64_eq (by omega) (by omega)]; omega, by omega, b1, ?_⟩
    intro k q hk hw
    have hpos : ∀ (k : Nat) (q : Int), Wk g.Edges (knAll g.Edges) k 0 q → 0 ≤ q ∧ q < g.Edges.length := by
      intro k q hw
      cases k with
      | zero => rw [← hw.zero]; omega
      | succ k =>
        obtain ⟨r, i, _, h2, rfl⟩ := hw.unsnoc
        have := knAll_iff.1 h2
        exact hg.edges _ _ this.1.1 this.1.2 this.2.1 this.2.2
    by_cases hkj : k ≤ j
    · exact b2.int (hpos k q hw).1 (h4 k q hkj hw)
    · have : k = j + 1 := by omega
      subst this
      obtain ⟨r', i, h5, h6, rfl⟩ := hw.unsnoc
      have hr := hpos _ _ h5
      have h7 := b3 r'.toNat (by omega)
      rw [show ((r'.toNat : Nat) : Int) = r' by omega] at h7
      exact h7 (h4 j r' (Nat.le_refl _) h5) i h6
  · rintro ⟨S', t⟩ ⟨h1, h2, h3, h4⟩
    simp only at h1 h3 h4 ⊢
    have hl := h3.1
    rw [if_neg (by simp; omega)]
    refine ⟨_, rfl, h3.1, fun q hq => ⟨h3.2 q hq, ?_⟩⟩
    rintro ⟨k, hw⟩
    obtain ⟨k', _, hd⟩ := hw.di
    have := hd.lt (knAll_ok _) ⟨by omega, by omega⟩
    exact h4 k' q (by omega) hd.1
theorem F67_spec (hg : GoodMap g d) : Tot (F67 g) (ReachIs g.Edges) := by
  have hel := hg.el; have hn2 := hg.n2; have hdl := hg.dl; have hn1 := hg.n1
  unfold F67
  rw [mk?_le (by omega) (by omega), Option.bind_some, at?_ix false (by omega) (by simp; omega), Option.bind_some, Int.toNat_natCast]
  exact Tot.bind _ (reach_all hg) (fun r hr => Tot.pure hr)
end
end Go.Proofs.Ytogfongmnkmegaa.Pad
