/- SearchFinishes. -/
import Derived.Test.YtogfongmnkmegaaLawFinish2
import Derived.Test.YtogfongmnkmegaaLawReaches
import Derived.Test.YtogfongmnkmegaaSeaXF
set_option linter.unusedVariables false
namespace Go.Proofs.Ytogfongmnkmegaa.Pad
open Go Go.Proofs
section
variable {g : Graph} {d : List Int}
theorem mk_ (hg : GoodMap g d) : ∀ j : Nat, j ≤ g.Edges.length → cm_ (g.Edges.take j) ≤ 100 * j := by
  intro j
  induction j with
  | zero => intro _; simp [cm_]
  | succ j ih =>
    intro hj
    have := ih (by omega)
    have h1 := (hg.row _ (List.getElem_mem (by omega : j < g.Edges.length))).1
    unfold cm_ at this ⊢
    rw [List.take_add_one, List.getElem?_eq_getElem (by omega), Option.toList_some, List.map_append, List.sum_append]
    simp only [List.map_cons, List.map_nil, List.sum_cons, List.sum_nil]
    omega
theorem F22_eq (hg : GoodMap g d) : F22 g = some (cm_ g.Edges : Int) := by
  unfold F22
  have hel := hg.el; have hn2 := hg.n2
  obtain ⟨s, h1, h2⟩ := Tot.forS (σ := Int) (body := fun i1 s1 =>
     (at? g.Edges (i1 : Int)).bind fun x4 =>
     some (w64 (s1 + (x4.length : Int)))) (k := g.Edges.length) (s := 0) (fun j s => s = (cm_ (g.Edges.take j) : Int)) rfl (by
      rintro j _ hj rfl
      have h3 := mk_ hg j (by omega)
      have h4 := (hg.row _ (List.getElem_mem hj)).1
      rw [de_ hj, Option.bind_some]
      refine Tot.pure ?_
      show w64 _ = _
      rw [ci_ (by omega) (by omega)]
      unfold cm_
      rw [List.take_add_one, List.getElem?_eq_getElem hj, Option.toList_some, List.map_append, List.sum_append]
      simp)
  refine Eq.trans (congrArg (fun o => Option.bind o _) h1) ?_
  rw [Option.bind_some, h2, List.take_length]
theorem ne_ (hg : GoodMap g d) : Tot (F23 g d) (fun b => b = false → ∀ q, Reach g.Edges q → 0 ≤ dA d q) := by
  have hel := hg.el; have hn2 := hg.n2; have hn1 := hg.n1; have hdl := hg.dl
  unfold F23
  rw [jv_ (by omega) (by omega), Option.bind_some, ce_ false (by omega) (by simp; omega), Option.bind_some]
  simp only [Int.toNat_natCast]
  refine Tot.bind _ (lj_ hg) ?_
  rintro ⟨S, t⟩ ⟨hl, hS⟩
  simp only at hl hS ⊢
  refine Tot.bind _ (Tot.forN (fun j (_ : Unit) => ∀ q : Nat, q < j → Reach g.Edges q → 0 ≤ dA d q) (fun b : Bool => b = true) (fun q h => by omega) ?_) ?_
  · intro j _ hj hI
    rw [de_ hj, Option.bind_some]
    have hjS := hS j (by omega)
    rw [eg_ false hj] at hjS
    have hat : at? d (j : Int) = some (dA d j) := ce_ 0 (by omega) (by omega)
    have next : (Reach g.Edges (j : Int) → 0 ≤ dA d j) → ∀ q : Nat, q < j + 1 → Reach g.Edges q → 0 ≤ dA d q := by
      intro h q hq hr
      by_cases e : q = j
      · subst e; exact h hr
      · exact hI q (by omega) hr
    refine Tot.ite (fun h => ?_) (fun h => Tot.pure (next fun hr => (h (hjS.2 hr)).elim))
    rw [hat, Option.bind_some]
    refine Tot.ite (fun h1 => Tot.pure rfl) (fun h1 => Tot.pure (next fun _ => by simpa using h1))
  intro o ho
  refine Tot.onL ho ?_ (fun r hr hf => by rw [hr] at hf; cases hf)
  intro _ hI
  refine Tot.pure fun _ q hq => ?_
  have hr : 0 ≤ q ∧ q < g.Edges.length := by
    obtain ⟨k, hw⟩ := hq
    cases k with
    | zero => rw [← hw.zero]; exact ⟨by omega, by omega⟩
    | succ k =>
      obtain ⟨r, i, h1, h2, rfl⟩ := hw.unsnoc
      have := dk_.1 h2
      exact hg.edges _ _ this.1.1 this.1.2 this.2.1 this.2.2
  have := hI q.toNat (by omega)
  rw [show ((q.toNat : Nat) : Int) = q by omega] at this
  exact this hq
end
theorem Run.pre {E : List (List Edge)} {d : List Int} {m : Mind} {tr : List Int} {p : Int} {M : List Search_gone} (h : Run E d m tr p M) :
    ∃ Ms : Nat → List Search_gone, Ms 0 = [] ∧ ∀ i (hi : i < tr.length), Run E d m (tr.take i) (dz_ E (tr.take i)) (Ms i) ∧ 0 ≤ tr[i] ∧ tr[i] < (ba_ E (dz_ E (tr.take i))).length ∧
      ChooseIs E (Ms i) (dz_ E (tr.take i)) m.Turn tr[i] ∧ Ms (i + 1) = du_ m.Memory (Ms i) (dz_ E (tr.take i)) tr[i] ∧ dz_ E (tr.take (i + 1)) = nx E (dz_ E (tr.take i)) tr[i] := by
  have step : ∀ (tr : List Int) (i : Nat) (hi : i < tr.length), dz_ E (tr.take (i + 1)) = nx E (dz_ E (tr.take i)) tr[i] := fun tr i hi => by
    unfold dz_; exact ds_ _ _ _ hi
  suffices hs : dz_ E tr = p ∧ ∃ Ms : Nat → List Search_gone, Ms 0 = [] ∧ Ms tr.length = M ∧ ∀ i (hi : i < tr.length), Run E d m (tr.take i) (dz_ E (tr.take i)) (Ms i) ∧ 0 ≤ tr[i] ∧ tr[i] < (ba_ E (dz_ E (tr.take i))).length ∧
      ChooseIs E (Ms i) (dz_ E (tr.take i)) m.Turn tr[i] ∧ Ms (i + 1) = du_ m.Memory (Ms i) (dz_ E (tr.take i)) tr[i] by
    obtain ⟨_, Ms, h0, _, h1⟩ := hs
    exact ⟨Ms, h0, fun i hi => ⟨(h1 i hi).1, (h1 i hi).2.1, (h1 i hi).2.2.1, (h1 i hi).2.2.2.1, (h1 i hi).2.2.2.2, step tr i hi⟩⟩
  induction h with
  | start => exact ⟨rfl, fun _ => [], rfl, rfl, fun i hi => by simp at hi⟩
  | step h1 h2 h3 h4 h5 h6 ih =>
    rename_i tr p M e
    obtain ⟨hp, Ms, m0, ml, hr⟩ := ih
    refine ⟨by unfold dz_ at hp ⊢; rw [List.foldl_append, hp]; rfl, fun i => if i ≤ tr.length then Ms i else du_ m.Memory M p e, by simp [m0], by simp; intro h; omega, ?_⟩
    intro i hi
    by_cases hl : i < tr.length
    · obtain ⟨a, b, c, f, k⟩ := hr i hl
      rw [List.getElem_append_left hl, List.take_append_of_le_length (by omega)]
      simp only
      rw [if_pos (by omega), if_pos (by omega)]
      exact ⟨a, b, c, f, k⟩
    · have : i = tr.length := by simp at hi; omega
      subst this
      rw [List.getElem_append_right (by omega), List.take_append_of_le_length (by omega), List.take_length, hp]
      simp only [Nat.sub_self, List.getElem_cons_zero]
      rw [if_pos (by omega), if_neg (by omega), ml]
      exact ⟨h1, h4, h5, h6, rfl⟩
structure GoneOk (E : List (List Edge)) (M : List Search_gone) (b : Nat) (G : List (List Int)) : Prop where
  len : G.length = E.length
  row : ∀ q : Int, 0 ≤ q → q < E.length → (ix [] G q).length = (ba_ E q).length
  val : ∀ q i : Int, 0 ≤ q → q < E.length → 0 ≤ i → i < (ba_ E q).length → 0 ≤ ix 0 (ix [] G q) i ∧ ix 0 (ix [] G q) i ≤ b ∧ (0 < ix 0 (ix [] G q) i ↔ knS M q i = true)
section
variable {g : Graph} {d : List Int}
theorem kq_ (hg : GoodMap g d) : Tot (bw_ (σ := (List (List Int) × Int)) (ρ := (List (List Int) × Int)) (fun s1 =>
 if decide (s1.2 < (s1.1.length : Int)) then
 ((at? g.Edges s1.2).bind fun x36 =>
 (mk? (x36.length : Int) 0).bind fun x37 =>
 (at? s1.1 s1.2).bind fun x38 =>
 some (Sum.inl (s1.1.set (s1.2).toNat x37, w64 (s1.2 + 1))))
 else
 (some (Sum.inr (s1.1, s1.2)))) (List.replicate g.Edges.length ([] : List Int), 0)) (fun r => GoneOk g.Edges [] 0 r.1) := by
  have hel := hg.el; have hn2 := hg.n2
  refine cj_ (fun j (s : List (List Int) × Int) => s.2 = j ∧ j ≤ g.Edges.length ∧ s.1.length = g.Edges.length ∧ ∀ q : Nat, q < j → ix [] s.1 (q : Int) = List.replicate (ba_ g.Edges q).length 0)
    (fun r : List (List Int) × Int => GoneOk g.Edges [] 0 r.1) g.Edges.length 0 (List.replicate g.Edges.length ([] : List Int), (0 : Int)) ⟨rfl, by omega, by simp, fun q h => by omega⟩ ?_ ?_
  · rintro j ⟨G, t⟩ _ hj ⟨h1, h2, h3, h4⟩
    simp only at h1 h3 h4 ⊢
    subst h1
    have hj' : j < g.Edges.length := by omega
    have hat : at? g.Edges (j : Int) = some (ba_ g.Edges j) := ce_ [] (by omega) (by omega)
    have hlen := hg.len (p := (j : Int)) (by omega)
    left
    rw [if_pos (by simp; omega), hat, Option.bind_some, jv_ (by omega) (by omega), Option.bind_some, ce_ [] (by omega) (by omega), Option.bind_some]
    refine ⟨_, rfl, by simp only; rw [ci_ (by omega) (by omega)]; omega, by omega, by simp [h3], ?_⟩
    intro q hq
    simp only [Int.toNat_natCast]
    rw [gi_ _ _ _ _ _ (by omega)]
    by_cases e : q = j
    · subst e; rw [if_pos rfl]
    · rw [if_neg e]; exact h4 q (by omega)
  · rintro ⟨G, t⟩ ⟨h1, h2, h3, h4⟩
    simp only at h1 h3 h4 ⊢
    rw [if_neg (by simp; omega)]
    refine ⟨_, rfl, h3, fun q q0 q1 => ?_, fun q i q0 q1 i0 i1 => ?_⟩
    · have := h4 q.toNat (by omega)
      rw [show ((q.toNat : Nat) : Int) = q by omega] at this
      simp only
      rw [this]; simp
    · have := h4 q.toNat (by omega)
      rw [show ((q.toNat : Nat) : Int) = q by omega] at this
      simp only
      rw [this]
      have h0 : ix 0 (List.replicate (ba_ g.Edges q).length (0 : Int)) i = 0 := by
        have := eh_ (0 : Int) (l := List.replicate (ba_ g.Edges q).length (0 : Int)) i0 (by simpa using i1)
        exact List.eq_of_mem_replicate this
      rw [h0]
      simp [knS]
theorem F5_law (g : Graph) (d : List Int) (turn : Int) : F5 g d turn = some true := by
  unfold F5
  obtain ⟨b, hb, hbs⟩ := ng_ g
  obtain ⟨e, he, hes⟩ := nf_ g d
  rw [hb, Option.bind_some, F17_eq]
  cases b with
  | true => rfl
  | false =>
    simp only [Bool.false_eq_true, if_false, he, Option.bind_some]
    by_cases h0 : e = 0
    rotate_left
    · rw [if_pos (by simpa using h0)]
    rw [if_neg (by simpa using h0)]
    by_cases ht0 : turn < 0
    · rw [if_pos (by simpa using ht0)]
    rw [if_neg (by simpa using ht0)]
    by_cases ht1 : 99 < turn
    · rw [if_pos (by simpa using ht1)]
    rw [if_neg (by simpa using ht1)]
    have hg : GoodMap g d := by
      rcases hes with ⟨_, h⟩ | ⟨h, _⟩
      · exact h
      · omega
    have hel := hg.el; have hn2 := hg.n2; have hn1 := hg.n1; have hdl := hg.dl
    obtain ⟨hs40, hp20⟩ := hbs rfl (fun r hr => (hg.row r hr).1) (by omega) (by omega)
    rw [F22_eq hg, Option.bind_some]
    have hprod : cm_ g.Edges * g.Positions.length ≤ 40 * 20 := Nat.mul_le_mul hs40 hp20
    have hmost : ko_ (w64 ((cm_ g.Edges : Int) * (g.Positions.length : Int))) 2000 = ((cm_ g.Edges * g.Positions.length : Nat) : Int) := by
      rw [← Int.natCast_mul, ci_ (by omega) (by omega)]
      unfold ko_
      split <;> omega
    rw [hmost]
    have herr : ErrIs g d ⟨200, turn⟩ ((cm_ g.Edges * g.Positions.length : Nat) : Int) 0 := .inl ⟨rfl, hg, ⟨by simp, by simp, by simp; omega, by simp; omega⟩, by omega, by omega⟩
    obtain ⟨tr, p, M, h3, _, h4, h5, h6⟩ := F18_run herr
    have ⟨_, hp, _⟩ := h3.ok hg (by simp)
    rw [h4, Option.bind_some]
    simp only
    rw [if_neg (by simp)]
    refine Tot.some_true ?_
    refine Tot.bind (Sum.elim (fun _ : Unit => True) (fun _ : Bool => False)) ?_ ?_
    · refine Tot.ite (fun hd => ?_) (fun _ => Tot.pure trivial)
      obtain ⟨x, hx, hx2⟩ := ne_ hg
      rw [hx, Option.bind_some]
      cases x with
      | true => exact Tot.pure trivial
      | false =>
        exfalso
        have := h3.finishes hg rfl hs40 (hx2 rfl) (by
          rcases h6 with h6 | h6 | h6
          · exact .inl h6
          · exact .inr (.inl h6)
          · refine .inr (.inr ?_)
            rw [hel]
            exact Int.ofNat.inj h6)
        rw [this] at hd
        simp at hd
    intro o ho
    refine Tot.onL ho ?_ (fun r hr => hr.elim)
    intro _ _
    rw [jv_ (by omega) (by omega), Option.bind_some]
    simp only [Int.toNat_natCast]
    refine Tot.bind _ (kq_ hg) ?_
    rintro ⟨G0, t0⟩ hG0
    simp only at hG0 ⊢
    obtain ⟨Ms, m0, hpre⟩ := h3.pre
    have hposr : ∀ i, i ≤ tr.length → 0 ≤ dz_ g.Edges (tr.take i) ∧ dz_ g.Edges (tr.take i) < g.Edges.length := by
      intro i
      induction i with
      | zero => intro _; rw [List.take_zero]; exact ⟨by simp [dz_], by simp [dz_]; omega⟩
      | succ i ih =>
        intro hi
        have a := ih (by omega)
        have ⟨_, b1, b2, _, _, b5⟩ := hpre i (by omega)
        rw [b5]
        exact hg.edges _ _ a.1 a.2 b1 b2
    refine Tot.bind _ (Tot.forN (fun j (s : List (List Int) × Int) => s.2 = dz_ g.Edges (tr.take j) ∧ GoneOk g.Edges (Ms j) j s.1) (fun _ : Bool => False) ?_ ?_) ?_
    · exact ⟨by simp [dz_], by rw [m0]; exact hG0⟩
    · rintro j ⟨G, q⟩ hj ⟨hq, hG⟩
      simp only at hq hG ⊢
      have ⟨hrun, b1, b2, hch, hM, hnx⟩ := hpre j hj
      have ⟨a1, a2⟩ := hposr j (by omega)
      rw [← hq] at hrun b2 hch hM hnx a1 a2
      have ⟨hMok, _, _⟩ := hrun.ok hg (by simp)
      have hatE : at? g.Edges q = some (ba_ g.Edges q) := ce_ [] a1 a2
      have hGl := hG.len
      have hatG : at? G q = some (ix [] G q) := ce_ [] a1 (by omega)
      have hrl := hG.row q a1 a2
      have hatv : at? (ix [] G q) tr[j] = some (ix 0 (ix [] G q) tr[j]) := ce_ 0 b1 (by omega)
      have ⟨v1, v2, v3⟩ := hG.val q tr[j] a1 a2 b1 b2
      have hrow100 := hg.len (p := q) ⟨a1, a2⟩
      rw [de_ hj, Option.bind_some, if_neg (by simpa using b1), hatE, Option.bind_some, if_neg (by simpa using b2), hatG]
      simp only [Option.bind_some]
      rw [hatv]
      simp only [Option.bind_some]
      refine Tot.bind (Sum.elim (fun _ : Unit => True) (fun _ => False)) ?_ ?_
      · refine Tot.ite (fun hv => ?_) (fun _ => Tot.pure trivial)
        have hkn := v3.1 (by simpa using hv)
        have hall := hch.again hkn
        refine Tot.bind (Sum.elim (fun _ : Int => True) (fun _ => False)) ?_ (fun o ho => Tot.onL ho (fun _ _ => Tot.pure trivial) (fun r hr => hr.elim))
        refine cj_ (fun k (s : Int) => s = k ∧ k ≤ (ba_ g.Edges q).length) (Sum.elim (fun _ : Int => True) (fun _ => False)) (ba_ g.Edges q).length 0 (0 : Int) ⟨rfl, by omega⟩ ?_ ?_
        · rintro k _ _ hk ⟨rfl, hk2⟩
          left
          have hkn2 := hall k (by omega) (by omega)
          have ⟨_, _, w3⟩ := hG.val q k a1 a2 (by omega) (by omega)
          have := w3.2 hkn2
          rw [if_pos (by simp; omega), ce_ 0 (by omega) (by omega), Option.bind_some, if_neg (by simp; omega)]
          exact ⟨_, rfl, by rw [ci_ (by omega) (by omega)]; omega, by omega⟩
        · rintro _ ⟨rfl, _⟩
          rw [if_neg (by simp; omega)]
          exact ⟨_, rfl, trivial⟩
      intro o ho
      refine Tot.onL ho ?_ (fun r hr => hr.elim)
      intro _ _
      have hto : at? (ba_ g.Edges q) tr[j] = some (ix z0 (ba_ g.Edges q) tr[j]) := ce_ z0 b1 b2
      rw [hto]
      simp only [Option.bind_some]
      refine Tot.pure ?_
      show _ ∧ _
      refine ⟨?_, ?_⟩
      · simp only
        rw [hnx]; rfl
      · simp only
        have hj2 : j < 2000 := by omega
        rw [ci_ (by omega) (by omega)]
        obtain ⟨_, n2, _⟩ := gw_ (mem := 200) hMok ⟨a1, a2⟩ ⟨b1, b2⟩ (by omega)
        have hM2 : Ms (j + 1) = du_ 200 (Ms j) q tr[j] := hM
        have hset : ∀ q' : Int, 0 ≤ q' → ix [] (G.set q.toNat ((ix [] G q).set (tr[j]).toNat (ix 0 (ix [] G q) tr[j] + 1))) q' = if q' = q then (ix [] G q).set (tr[j]).toNat (ix 0 (ix [] G q) tr[j] + 1) else ix [] G q' := fun q' hq' =>
          lv_ _ _ _ _ _ a1 (by omega) hq'
        refine ⟨by simp [hGl], fun q' c1 c2 => ?_, fun q' i c1 c2 i1 i2 => ?_⟩
        · rw [hset q' c1]
          by_cases hqq : q' = q
          · subst hqq; rw [if_pos rfl]; simpa using hrl
          · rw [if_neg hqq]; exact hG.row q' c1 c2
        · rw [hset q' c1, hM2, n2]
          have ⟨u1, u2, u3⟩ := hG.val q' i c1 c2 i1 i2
          by_cases hqq : q' = q
          · subst hqq
            rw [if_pos rfl, lv_ _ _ _ _ _ b1 (by omega) i1]
            by_cases hii : i = tr[j]
            · subst hii
              rw [if_pos rfl]
              exact ⟨by omega, by omega, fun _ => .inr ⟨rfl, rfl⟩, fun _ => by omega⟩
            · rw [if_neg hii]
              exact ⟨u1, by omega, fun h => .inl (u3.1 h), fun h => u3.2 (h.resolve_right fun h => hii h.2)⟩
          · rw [if_neg hqq]
            exact ⟨u1, by omega, fun h => .inl (u3.1 h), fun h => u3.2 (h.resolve_right fun h => hqq h.1)⟩
    intro o ho
    refine Tot.onL ho ?_ (fun r hr => hr.elim)
    intro s _
    exact Tot.pure rfl
end
end Go.Proofs.Ytogfongmnkmegaa.Pad
