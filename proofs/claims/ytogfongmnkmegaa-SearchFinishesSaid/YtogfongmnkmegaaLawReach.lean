/- The positions that can be reached. -/
import Derived.Test.YtogfongmnkmegaaLawWrong
set_option linter.unusedVariables false
namespace Go.Proofs.Ytogfongmnkmegaa.Pad
open Go Go.Proofs
def ht_ (E : List (List Edge)) (p i : Int) : Bool := decide (0 ≤ p ∧ p < E.length) && decide (0 ≤ i ∧ i < (ba_ E p).length)
theorem dk_ {E : List (List Edge)} {p i : Int} : ht_ E p i = true ↔ (0 ≤ p ∧ p < E.length) ∧ 0 ≤ i ∧ i < (ba_ E p).length := by
  unfold ht_; simp only [Bool.and_eq_true, decide_eq_true_eq]
theorem mu_ (E : List (List Edge)) : me_ E (ht_ E) := by
  intro p i h
  have := dk_.1 h
  exact ⟨this.1.1, this.1.2, this.2.1, this.2.2⟩
def Reach (E : List (List Edge)) (q : Int) : Prop := ∃ k, Wk E (ht_ E) k 0 q
theorem Reach.next {E : List (List Edge)} {q i : Int} (h : Reach E q) (hk : ht_ E q i = true) : Reach E (nx E q i) := by
  obtain ⟨k, h⟩ := h
  exact ⟨k + 1, h.snoc hk⟩
def ReachIs (E : List (List Edge)) (out : List Bool) : Prop := out.length = E.length ∧ ∀ q : Nat, q < E.length → (ix false out q = true ↔ Reach E q)
theorem ReachIs.uniq {E : List (List Edge)} {l l' : List Bool} (h : ReachIs E l) (h' : ReachIs E l') : l = l' := by
  apply List.ext_getElem (by rw [h.1, h'.1])
  intro i a b
  have h1 := h.2 i (by rw [← h.1]; exact a)
  have h2 := h'.2 i (by rw [← h.1]; exact a)
  rw [eg_ false a] at h1
  rw [eg_ false b] at h2
  rw [Bool.eq_iff_iff, h1, h2]
theorem lv_ {α : Type} (z : α) (l : List α) (i p : Int) (v : α) (h0 : 0 ≤ i) (h : i < l.length) (hp : 0 ≤ p) : ix z (l.set i.toNat v) p = if p = i then v else ix z l p := by
  have := gi_ z l i.toNat v p.toNat (by omega)
  rw [show ((p.toNat : Nat) : Int) = p by omega] at this
  rw [this]
  by_cases e : p = i
  · rw [if_pos (by omega), if_pos e]
  · rw [if_neg (by omega), if_neg e]
theorem ix_out {α : Type} (z : α) (l : List α) (p : Int) (hp : l.length ≤ p) : ix z l p = z := by
  unfold ix; rw [List.getElem?_eq_none (by omega)]; rfl
section
variable {g : Graph} {d : List Int}
def fg_ (E : List (List Edge)) (S : List Bool) : Prop := S.length = E.length ∧ ∀ q : Nat, q < E.length → ix false S q = true → Reach E q
def Sup (S S' : List Bool) : Prop := ∀ q : Nat, ix false S q = true → ix false S' q = true
theorem Sup.refl (S : List Bool) : Sup S S := fun _ h => h
theorem Sup.trans {S T U : List Bool} (h : Sup S T) (h' : Sup T U) : Sup S U := fun q hq => h' q (h q hq)
theorem Sup.int {S T : List Bool} (h : Sup S T) {q : Int} (hq : 0 ≤ q) (hs : ix false S q = true) : ix false T q = true := by
  have := h q.toNat
  rw [show ((q.toNat : Nat) : Int) = q by omega] at this
  exact this hs
def gs_ (E : List (List Edge)) (S : List Bool) (p : Int) : Prop := ∀ i, ht_ E p i = true → ix false S (nx E p i) = true
theorem li_ (hg : GoodMap g d) {p : Nat} (hp : p < g.Edges.length) {S : List Bool} (hS : fg_ g.Edges S) :
    Tot (bw_ (σ := (List Bool × Int)) (ρ := (List Bool × Int)) (fun s57 =>
 (((at? g.Edges (p : Int)).bind fun x2399 =>
 if decide (s57.2 < (x2399.length : Int)) then
 ((at? s57.1 (p : Int)).bind fun x2400 =>
 if x2400 then
 (some (Sum.inl ()))
 else
 (some (Sum.inr (Sum.inr (s57.1, s57.2)))))
 else
 (some (Sum.inr (Sum.inr (s57.1, s57.2))))) : Option (Unit ⊕ _)).bind fun ov343 => onL ov343 fun v343 =>
 (at? g.Edges (p : Int)).bind fun x2401 =>
 (at? x2401 s57.2).bind fun x2402 =>
 (at? s57.1 x2402.To).bind fun x2403 =>
 some (Sum.inl (s57.1.set (x2402.To).toNat true, w64 (s57.2 + 1)))) (S, 0)) (fun r => fg_ g.Edges r.1 ∧ Sup S r.1 ∧ (ix false S p = true → gs_ g.Edges r.1 p)) := by
  have hel := hg.el; have hn2 := hg.n2; have hdl := hg.dl
  have hatE : at? g.Edges (p : Int) = some (ba_ g.Edges p) := ce_ [] (by omega) (by omega)
  have hlen := hg.len (p := (p : Int)) (by omega)
  have hatS : ∀ S', fg_ g.Edges S' → at? S' (p : Int) = some (ix false S' p) := fun S' h => ce_ false (by omega) (by rw [h.1]; omega)
  cases hps : ix false S (p : Int) with
  | false =>
    refine ⟨(S, 0), df_ ?_, hS, Sup.refl S, fun h => by cases h⟩
    simp only
    rw [hatE, Option.bind_some, hatS S hS, hps]
    by_cases h0 : (0 : Int) < (ba_ g.Edges (p : Int)).length
    · rw [if_pos (by simpa using h0)]; rfl
    · rw [if_neg (by simpa using h0)]; rfl
  | true =>
    have hpr : Reach g.Edges p := hS.2 p hp hps
    refine cj_ (fun i (s : List Bool × Int) => s.2 = i ∧ i ≤ (ba_ g.Edges (p : Int)).length ∧ fg_ g.Edges s.1 ∧ Sup S s.1 ∧ ∀ k : Nat, k < i → ix false s.1 (nx g.Edges p k) = true)
      (fun r : List Bool × Int => fg_ g.Edges r.1 ∧ Sup S r.1 ∧ (true = true → gs_ g.Edges r.1 p)) (ba_ g.Edges (p : Int)).length 0 (S, (0 : Int)) ⟨rfl, by omega, hS, Sup.refl S, fun k h => by omega⟩ ?_ ?_
    · rintro i ⟨S', t⟩ _ hi ⟨h1, h2, h3, h4, h5⟩
      simp only at h1 h3 h4 h5 ⊢
      subst h1
      have hi' : i < (ba_ g.Edges (p : Int)).length := by omega
      left
      rw [hatE, Option.bind_some, if_pos (by simpa using hi'), hatS S' h3, h4 p hps]
      simp only [Option.bind_some, if_true, onL]
      have hto := hg.to (p := (p : Int)) (by omega) (List.getElem_mem hi')
      have hnx : (ba_ g.Edges (p : Int))[i].To = nx g.Edges p i := by unfold nx; rw [eg_ z0 hi']
      rw [de_ hi', Option.bind_some, hnx]
      rw [hnx] at hto
      have hl := h3.1
      have hka : ht_ g.Edges p i = true := dk_.2 ⟨⟨by omega, by omega⟩, by omega, by omega⟩
      rw [ce_ false hto.1 (by omega), Option.bind_some]
      have hset : ∀ q : Nat, ix false (S'.set (nx g.Edges p i).toNat true) (q : Int) = if q = (nx g.Edges p i).toNat then true else ix false S' q := fun q => gi_ _ _ _ _ _ (by omega)
      have hsup : Sup S' (S'.set (nx g.Edges p i).toNat true) := by
        intro q hq; rw [hset]; split
        · rfl
        · exact hq
      have hself : ix false (S'.set (nx g.Edges p i).toNat true) (nx g.Edges p i) = true := by
        have := hset (nx g.Edges p i).toNat
        rw [show (((nx g.Edges p i).toNat : Nat) : Int) = nx g.Edges p i by omega, if_pos rfl] at this
        exact this
      refine ⟨_, rfl, by simp only; rw [ci_ (by omega) (by omega)]; omega, by omega, ⟨by simp [h3.1], ?_⟩, h4.trans hsup, ?_⟩
      · intro q hq h
        simp only at h
        rw [hset] at h
        split at h
        · rename_i e
          rw [e, show (((nx g.Edges p i).toNat : Nat) : Int) = nx g.Edges p i by omega]
          exact hpr.next hka
        · exact h3.2 q hq h
      · intro k hk
        by_cases e : k = i
        · subst e; exact hself
        · have hkl : (k : Int) < (ba_ g.Edges (p : Int)).length := by omega
          have := hg.edges (p : Int) k (by omega) (by omega) (by omega) hkl
          exact hsup.int this.1 (h5 k (by omega))
    · rintro ⟨S', t⟩ ⟨h1, h2, h3, h4, h5⟩
      simp only at h1 h3 h4 h5 ⊢
      rw [hatE, Option.bind_some, if_neg (by simp; omega)]
      refine ⟨_, rfl, h3, h4, fun _ i hi => ?_⟩
      have := dk_.1 hi
      have h6 := h5 i.toNat (by omega)
      rw [show ((i.toNat : Nat) : Int) = i by omega] at h6
      exact h6
theorem jh_ (hg : GoodMap g d) {S : List Bool} (hS : fg_ g.Edges S) :
    Tot (bw_ (σ := (List Bool × Int)) (ρ := (List Bool × Int)) (fun s56 =>
 if decide (s56.2 < (s56.1.length : Int)) then
 ((bw_ (σ := (List Bool × Int)) (ρ := (List Bool × Int)) (fun s57 =>
 (((at? g.Edges s56.2).bind fun x2399 =>
 if decide (s57.2 < (x2399.length : Int)) then
 ((at? s57.1 s56.2).bind fun x2400 =>
 if x2400 then
 (some (Sum.inl ()))
 else
 (some (Sum.inr (Sum.inr (s57.1, s57.2)))))
 else
 (some (Sum.inr (Sum.inr (s57.1, s57.2))))) : Option (Unit ⊕ _)).bind fun ov343 => onL ov343 fun v343 =>
 (at? g.Edges s56.2).bind fun x2401 =>
 (at? x2401 s57.2).bind fun x2402 =>
 (at? s57.1 x2402.To).bind fun x2403 =>
 some (Sum.inl (s57.1.set (x2402.To).toNat true, w64 (s57.2 + 1)))) (s56.1, 0)).bind fun out57 =>
 some (Sum.inl (out57.1, w64 (s56.2 + 1))))
 else
 (some (Sum.inr (s56.1, s56.2)))) (S, 0)) (fun r => fg_ g.Edges r.1 ∧ Sup S r.1 ∧ ∀ p : Nat, p < g.Edges.length → ix false S p = true → gs_ g.Edges r.1 p) := by
  have hel := hg.el; have hn2 := hg.n2; have hdl := hg.dl
  refine cj_ (fun j (s : List Bool × Int) => s.2 = j ∧ j ≤ g.Edges.length ∧ fg_ g.Edges s.1 ∧ Sup S s.1 ∧ ∀ p : Nat, p < j → ix false S p = true → gs_ g.Edges s.1 p)
    (fun r : List Bool × Int => fg_ g.Edges r.1 ∧ Sup S r.1 ∧ ∀ p : Nat, p < g.Edges.length → ix false S p = true → gs_ g.Edges r.1 p) g.Edges.length 0 (S, (0 : Int)) ⟨rfl, by omega, hS, Sup.refl S, fun p h => by omega⟩ ?_ ?_
  · rintro j ⟨S', t⟩ _ hj ⟨h1, h2, h3, h4, h5⟩
    simp only at h1 h3 h4 h5 ⊢
    subst h1
    left
    have hl := h3.1
    obtain ⟨r, a, b1, b2, b3⟩ := li_ hg (p := j) (by omega) h3
    rw [if_pos (by simp; omega), a, Option.bind_some]
    refine ⟨_, rfl, by simp only; rw [ci_ (by omega) (by omega)]; omega, by omega, b1, h4.trans b2, ?_⟩
    intro p hp hs
    by_cases e : p = j
    · subst e; exact b3 (h4 p hs)
    · intro i hi
      have := dk_.1 hi
      have := hg.edges _ _ this.1.1 this.1.2 this.2.1 this.2.2
      exact b2.int this.1 (h5 p (by omega) hs i hi)
  · rintro ⟨S', t⟩ ⟨h1, h2, h3, h4, h5⟩
    simp only at h1 h3 h4 h5 ⊢
    have hl := h3.1
    rw [if_neg (by simp; omega)]
    exact ⟨_, rfl, h3, h4, fun p hp => h5 p (by omega)⟩
theorem lj_ (hg : GoodMap g d) : Tot (bw_ (σ := (List Bool × Int)) (ρ := (List Bool × Int)) (fun s49 =>
 if decide (s49.2 < (s49.1.length : Int)) then
 ((bw_ (σ := (List Bool × Int)) (ρ := (List Bool × Int)) (fun s56 =>
 if decide (s56.2 < (s56.1.length : Int)) then
 ((bw_ (σ := (List Bool × Int)) (ρ := (List Bool × Int)) (fun s57 =>
 (((at? g.Edges s56.2).bind fun x2399 =>
 if decide (s57.2 < (x2399.length : Int)) then
 ((at? s57.1 s56.2).bind fun x2400 =>
 if x2400 then
 (some (Sum.inl ()))
 else
 (some (Sum.inr (Sum.inr (s57.1, s57.2)))))
 else
 (some (Sum.inr (Sum.inr (s57.1, s57.2))))) : Option (Unit ⊕ _)).bind fun ov343 => onL ov343 fun v343 =>
 (at? g.Edges s56.2).bind fun x2401 =>
 (at? x2401 s57.2).bind fun x2402 =>
 (at? s57.1 x2402.To).bind fun x2403 =>
 some (Sum.inl (s57.1.set (x2402.To).toNat true, w64 (s57.2 + 1)))) (s56.1, 0)).bind fun out57 =>
 some (Sum.inl (out57.1, w64 (s56.2 + 1))))
 else
 (some (Sum.inr (s56.1, s56.2)))) (s49.1, 0)).bind fun out56 =>
 some (Sum.inl (out56.1, w64 (s49.2 + 1))))
 else
 (some (Sum.inr (s49.1, s49.2)))) ((List.replicate g.Edges.length false).set (0 : Int).toNat true, 0)) (fun r => ReachIs g.Edges r.1) := by
  have hel := hg.el; have hn2 := hg.n2; have hdl := hg.dl; have hn1 := hg.n1
  have h0 : ∀ q : Nat, ix false ((List.replicate g.Edges.length false).set (0 : Int).toNat true) (q : Int) = if q = 0 then true else false := by
    intro q
    rw [show (0 : Int).toNat = 0 from rfl, gi_ _ _ _ _ _ (by simp; omega)]
    congr 1
    by_cases hq : q < g.Edges.length
    · rw [eg_ false (by simpa using hq)]; simp
    · rw [ix_out _ _ _ (by simp; omega)]
  refine cj_ (fun j (s : List Bool × Int) => s.2 = j ∧ j ≤ g.Edges.length ∧ fg_ g.Edges s.1 ∧ ∀ (k : Nat) (q : Int), k ≤ j → Wk g.Edges (ht_ g.Edges) k 0 q → ix false s.1 q = true)
    (fun r : List Bool × Int => ReachIs g.Edges r.1) g.Edges.length 0 ((List.replicate g.Edges.length false).set (0 : Int).toNat true, (0 : Int)) ⟨rfl, by omega, ⟨by simp, ?_⟩, ?_⟩ ?_ ?_
  · intro q hq h
    simp only at h
    rw [h0] at h
    by_cases e : q = 0
    · subst e; exact ⟨0, .nil _⟩
    · rw [if_neg e] at h; cases h
  · intro k q hk hw
    have : k = 0 := by omega
    subst this
    rw [← hw.zero]
    exact h0 0
  · rintro j ⟨S', t⟩ _ hj ⟨h1, h2, h3, h4⟩
    simp only at h1 h3 h4 ⊢
    subst h1
    left
    have hl := h3.1
    obtain ⟨r, a, b1, b2, b3⟩ := jh_ hg h3
    rw [if_pos (by simp; omega), a, Option.bind_some]
    refine ⟨_, rfl, by simp only; rw [ci_ (by omega) (by omega)]; omega, by omega, b1, ?_⟩
    intro k q hk hw
    have hpos : ∀ (k : Nat) (q : Int), Wk g.Edges (ht_ g.Edges) k 0 q → 0 ≤ q ∧ q < g.Edges.length := by
      intro k q hw
      cases k with
      | zero => rw [← hw.zero]; omega
      | succ k =>
        obtain ⟨r, i, _, h2, rfl⟩ := hw.unsnoc
        have := dk_.1 h2
        exact hg.edges _ _ this.1.1 this.1.2 this.2.1 this.2.2
    by_cases hkj : k ≤ j
    · exact b2.int (hpos k q hw).1 (h4 k q hkj hw)
    · have : k = j + 1 := by omega
      subst this
      obtain ⟨r', i, h5, h6, rfl⟩ := hw.unsnoc
      have hr := hpos _ _ h5
      have h7 := b3 r'.toNat (by omega)
      rw [show ((r'.toNat : Nat) : Int) = r' by omega] at h7
      exact h7 (h4 j r' (Nat.le_refl _) h5) i h6
  · rintro ⟨S', t⟩ ⟨h1, h2, h3, h4⟩
    simp only at h1 h3 h4 ⊢
    have hl := h3.1
    rw [if_neg (by simp; omega)]
    refine ⟨_, rfl, h3.1, fun q hq => ⟨h3.2 q hq, ?_⟩⟩
    rintro ⟨k, hw⟩
    obtain ⟨k', _, hd⟩ := hw.di
    have := hd.lt (mu_ _) ⟨by omega, by omega⟩
    exact h4 k' q (by omega) hd.1
end
end Go.Proofs.Ytogfongmnkmegaa.Pad
