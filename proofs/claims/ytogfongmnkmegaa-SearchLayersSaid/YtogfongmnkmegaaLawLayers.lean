/- SearchLayers. -/
import Derived.Test.YtogfongmnkmegaaLawWrong
set_option linter.unusedVariables false
namespace Go.Proofs.Ytogfongmnkmegaa.Pad
open Go Go.Proofs

section
variable {g : Graph} {d : List Int}
theorem wrongN_le (E : List (List Edge)) (d : List Int) (p : Int) : wrongN E d p ≤ (rowOf E p).length := List.countP_le_length
theorem wrongN_lt (hg : GoodMap g d) {p : Int} (hp : 0 ≤ p ∧ p < g.Edges.length) (h : 0 < dA d p) : wrongN g.Edges d p < (rowOf g.Edges p).length := by
  obtain ⟨e, he, hn⟩ := hg.down hp h
  have h1 := wrongN_le g.Edges d p
  apply Classical.byContradiction
  intro hge
  have : wrongN g.Edges d p = (rowOf g.Edges p).length := by omega
  have := (List.countP_eq_length.1 this) e he
  rw [hn] at this; cases this
theorem wrongN_eq {p : Int} (h : dA d p ≤ 0) : wrongN g.Edges d p = (rowOf g.Edges p).length := by
  refine List.countP_eq_length.2 (fun e _ => ?_)
  unfold nearB
  rw [decide_eq_false (by omega)]; rfl
theorem GoodMap.chain (hg : GoodMap g d) : ∀ (k : Nat) (v : Int), v ∈ d → v = k → ∀ i : Nat, i ≤ k → (i : Int) ∈ d := by
  have hel := hg.el; have hdl := hg.dl
  intro k
  induction k with
  | zero => intro v hv hk i hi; rw [show (i : Int) = v by omega]; exact hv
  | succ k ih =>
    intro v hv hk i hi
    by_cases e : i = k + 1
    · rw [show (i : Int) = v by omega]; exact hv
    · obtain ⟨p, hp, hpe⟩ := mem_ix 0 hv
      change dA d p = v at hpe
      obtain ⟨e, he, hn⟩ := hg.down (p := (p : Int)) (by omega) (by omega)
      have hto := hg.to (p := (p : Int)) (by omega) he
      unfold nearB at hn
      simp only [Bool.and_eq_true, decide_eq_true_eq] at hn
      have hm : dA d e.To ∈ d := ix_mem 0 hto.1 hto.2
      exact ih _ hm (by omega) i (by omega)
theorem countP_split (d : List Int) (i : Int) : d.countP (fun x => decide (i ≤ x)) = d.countP (fun x => decide (x = i)) + d.countP (fun x => decide (i + 1 ≤ x)) := by
  induction d with
  | nil => rfl
  | cons a d ih =>
    simp only [List.countP_cons, decide_eq_true_eq]
    split <;> split <;> split <;> omega

theorem F11_law (g : Graph) (d : List Int) : F11 g d = some true := by
  unfold F11
  obtain ⟨b, hb, _⟩ := F15_spec g
  obtain ⟨e, he, he'⟩ := F21_spec g d
  rw [hb, Option.bind_some, F17_eq]
  cases b with
  | true => rfl
  | false =>
    simp only [Bool.false_eq_true, if_false, he, Option.bind_some]
    rcases he' with ⟨rfl, hg⟩ | ⟨rfl, hg⟩
    rotate_left
    · rw [if_pos (by simp)]; rfl
    have hel := hg.el; have hdl := hg.dl; have hn2 := hg.n2; have hn1 := hg.n1
    rw [if_neg (by simp)]
    simp only [Option.bind_some, onL]
    obtain ⟨⟨w, w'⟩, w1, w2⟩ := F33_spec g d
    obtain ⟨⟨u, u'⟩, u1, u2⟩ := F34_spec g d
    simp only at w2 u2
    rcases w2 with ⟨_, h, _⟩ | ⟨rfl, _, m, hm, hmx, hwl, hw⟩
    · exact (h hg).elim
    rcases u2 with ⟨_, h, _⟩ | ⟨rfl, _, hul, hu⟩
    · exact (h hg).elim
    have hmb := hg.bnd m hm
    rw [w1, u1]
    simp only [Option.bind_some, bne_self_eq_false, Bool.false_eq_true, if_false]
    refine Tot.some_true ?_
    refine Tot.bind _ (Tot.forN (fun j (s : Int) => s = ((d.take j).countP (fun x => decide (0 ≤ x)) : Nat)) (fun _ : Bool => False) (by simp) ?_) ?_
    · intro j s hj hs
      have hatd : at? d (j : Int) = some (dA d j) := at?_ix 0 (by omega) (by omega)
      have hatE : at? g.Edges (j : Int) = some (rowOf g.Edges j) := at?_ix [] (by omega) (by omega)
      have hatu : at? u (j : Int) = some (ix 0 u j) := at?_ix 0 (by omega) (by omega)
      have hdj : dA d (j : Int) = d[j] := ix_nat 0 hj
      have hcl : (d.take j).countP (fun x => decide (0 ≤ x)) ≤ (d.take j).length := List.countP_le_length
      rw [List.length_take] at hcl
      have hcnt := countP_take_succ (fun x : Int => decide (0 ≤ x)) d hj
      rw [hatd, Option.bind_some]
      have hv : (if decide (0 ≤ dA d (j : Int)) then some (w64 (s + 1)) else some s) = some (((d.take (j + 1)).countP (fun x => decide (0 ≤ x)) : Nat) : Int) := by
        rw [hcnt, hdj]
        by_cases h : 0 ≤ d[j]
        · rw [if_pos (by simpa using h), if_pos (by simpa using h), w64_eq (by omega) (by omega), hs]; rfl
        · rw [if_neg (by simpa using h), if_neg (by simpa using h), hs]; rfl
      rw [hv, Option.bind_some, if_neg (by simp; omega), hatu, Option.bind_some, hatE, Option.bind_some, hu j (by omega)]
      have h1 := wrongN_le g.Edges d (j : Int)
      rw [if_neg (by simp; omega)]
      simp only [Option.bind_some]
      by_cases hpos : 0 < dA d (j : Int)
      · have h2 := wrongN_lt hg (p := (j : Int)) (by omega) hpos
        rw [if_pos (by simpa using hpos), if_neg (by simp only [decide_eq_true_eq]; omega), if_neg (by simp only [decide_eq_true_eq]; omega)]
        exact Tot.pure rfl
      · have h2 := wrongN_eq (g := g) (d := d) (p := (j : Int)) (by omega)
        rw [if_neg (by simpa using hpos), if_pos (by simp; omega), h2, if_neg (by simp)]
        exact Tot.pure rfl
    intro o ho
    refine Tot.onL ho ?_ (fun r hr => hr.elim)
    rintro _ rfl
    rw [List.take_length]
    refine Tot.bind _ (Tot.forN (fun j (s : Int) => s = (d.countP (fun x => decide ((j : Int) ≤ x)) : Nat)) (fun _ : Bool => False) rfl ?_) ?_
    · intro j s hj hs
      have hatw : at? w (j : Int) = some (ix 0 w j) := at?_ix 0 (by omega) (by omega)
      have hin : (j : Int) ∈ d := hg.chain m.toNat m hm (by omega) j (by omega)
      have h1 : 0 < widthN d (j : Int) := List.countP_pos_iff.2 ⟨_, hin, by simp⟩
      have h2 := countP_split d (j : Int)
      have hc : d.countP (fun x => decide ((j : Int) ≤ x)) ≤ d.length := List.countP_le_length
      have h3 : widthN d (j : Int) = d.countP (fun x => decide (x = (j : Int))) := rfl
      rw [hatw, Option.bind_some, hw j hj, if_neg (by simp only [decide_eq_true_eq]; omega), Option.bind_some, w64_eq (by omega) (by omega)]
      refine Tot.pure ?_
      show s - (widthN d (j : Int) : Int) = ((d.countP (fun x => decide (((j + 1 : Nat) : Int) ≤ x)) : Nat) : Int)
      rw [show ((j + 1 : Nat) : Int) = (j : Int) + 1 by omega]
      omega
    intro o ho
    refine Tot.onL ho ?_ (fun r hr => hr.elim)
    rintro _ rfl
    have hz : d.countP (fun x => decide ((w.length : Int) ≤ x)) = 0 := by
      refine List.countP_eq_zero.2 (fun x hx => ?_)
      have := hmx x hx
      simp only [decide_eq_true_eq]; omega
    rw [hz]
    obtain ⟨r, r1, _, r2⟩ := F35_F41 g d
    have hat0 : at? d 0 = some (dA d 0) := at?_ix 0 (by omega) (by omega)
    rw [r1, Option.bind_some, hat0, Option.bind_some]
    rcases r2 with ⟨_, h⟩ | ⟨_, ⟨rfl, h⟩ | ⟨h1, h2, h3, h4⟩⟩
    · exact (h hg).elim
    · rw [if_pos (by simpa using h)]
      exact Tot.pure rfl
    · rw [if_neg (by simp; omega)]
      refine Tot.bind _ (Tot.forN (fun j (_ : Unit) => True) (fun _ : Bool => False) trivial ?_) ?_
      · intro j _ hj _
        have := h4 _ (List.getElem_mem hj)
        rw [at?_lt hj, Option.bind_some, if_neg (by simp only [decide_eq_true_eq]; omega)]
        exact Tot.pure trivial
      intro o ho
      refine Tot.onL ho ?_ (fun r hr => hr.elim)
      intro _ _
      rw [if_pos (by simpa using h1), Option.bind_some, if_pos (by simpa using h3)]
      exact Tot.pure rfl
end
end Go.Proofs.Ytogfongmnkmegaa.Pad
