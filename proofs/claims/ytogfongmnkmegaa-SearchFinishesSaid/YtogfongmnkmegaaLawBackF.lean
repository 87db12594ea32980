/- The player's way back: the function. -/
import Derived.Test.YtogfongmnkmegaaLawBack
set_option linter.unusedVariables false
namespace Go.Proofs.Ytogfongmnkmegaa.Pad
open Go Go.Proofs
theorem hq_ {W : gp_} {q : Int} {w z : Search_way} (h : mget? W q = some w) : bf_ z W q = w := by unfold bf_; rw [h]; rfl
theorem lr_ {W : gp_} {q : Int} {w : Search_way} (h : mget? W q = some w) : cv_ W q = true := by unfold cv_; rw [h]; rfl
theorem ls_ {W : gp_} {q : Int} (h : mget? W q = none) : cv_ W q = false := by unfold cv_; rw [h]; rfl
theorem ld_ {α : Type} (x : α) (l : List α) : sub? (x :: l) 1 ((x :: l).length : Int) = some l := by
  unfold sub?
  rw [if_pos ⟨by omega, by simp; omega, by omega⟩, Int.toNat_natCast, List.take_length]; rfl
theorem mf_ {a : Search_player} {x : Int} {t : List Int} {W : gp_} {wx : Search_way} {i : Nat} (hk : me_ a.view.edges (knS a.memory)) (he : ez_ a.view.edges) (hn : a.view.edges.length ≤ 300)
    (hr : ∀ r ∈ a.view.edges, r.length ≤ 100)
    (hB : BO a.view.edges (knS a.memory) a.at_ W (x :: t)) (hx : mget? W x = some wx) (hc : kd_ a.view.edges.length W = i + (x :: t).length) :
    Tot (forS (σ := (List (Int × Search_way) × List Int)) (fun i7 s8 =>
 (at? (ba_ a.view.edges x) (i7 : Int)).bind fun x129 =>
 (F86 a x (i7 : Int)).bind fun x130 =>
 if !x130 then
 (some (s8.1, s8.2))
 else
 (((if x == a.at_ then
 (some (i7 : Int))
 else
 (some ((bf_ (⟨0, 0⟩ : Search_way) s8.1 x).edge))) : Option (Int)).bind fun v82 =>
 ((if !(cv_ s8.1 x129.To) then
 ((push? s8.2 ([x129.To] : List Int)).bind fun x132 =>
 some x132)
 else
 (some s8.2)) : Option (List Int)).bind fun v83 =>
 ((if !(cv_ s8.1 x129.To) then
 (some true)
 else
 (if ((bf_ (⟨0, 0⟩ : Search_way) s8.1 x129.To).steps) == (w64 (((bf_ (⟨0, 0⟩ : Search_way) s8.1 x).steps) + 1)) then
 (some (decide (v82 < ((bf_ (⟨0, 0⟩ : Search_way) s8.1 x129.To).edge))))
 else
 (some false))) : Option (Bool)).bind fun v84 =>
 if v84 then
 (some (fq_ s8.1 x129.To (⟨w64 (((bf_ (⟨0, 0⟩ : Search_way) s8.1 x).steps) + 1), v82⟩ : Search_way), v83))
 else
 (some (s8.1, v83)))) (ba_ a.view.edges x).length 0 (W, x :: t)) (fun s => ∃ N, s.2 = x :: t ++ N ∧ II a.view.edges (knS a.memory) a.at_ W x t wx (ba_ a.view.edges x).length s.1 N ∧ kd_ a.view.edges.length s.1 = i + s.2.length) := by
  have ⟨hxr, kx, hkx, hdx⟩ := hB.di x wx hx
  have hkn : kx < a.view.edges.length := hdx.lt hk hxr
  have hrow : (ba_ a.view.edges x).length ≤ 100 := hr _ (eh_ _ hxr.1 hxr.2)
  refine Tot.forS (fun j (s : List (Int × Search_way) × List Int) => ∃ N, s.2 = x :: t ++ N ∧ II a.view.edges (knS a.memory) a.at_ W x t wx j s.1 N ∧ kd_ a.view.edges.length s.1 = i + s.2.length) ⟨[], by simp, II.start hB wx, hc⟩ ?_
  rintro j ⟨W', Q'⟩ hj ⟨N, hQ, hI, hcn⟩
  simp only at hQ hI hcn ⊢
  subst hQ
  rw [ce_ z0 (by omega) (by omega), Option.bind_some, nv_, Option.bind_some]
  have hnx : (ix z0 (ba_ a.view.edges x) (j : Int)).To = nx a.view.edges x j := rfl
  rw [hnx]
  have hxk : mget? W' x = some wx := by
    obtain ⟨w', h1, _, _, h2⟩ := hI.ext x wx hx
    rw [h1, h2 (by omega)]
  rw [hq_ hxk]
  by_cases hkj : knS a.memory x j = true
  · rw [if_neg (by simp [hkj])]
    have ⟨k1, k2, k3, k4⟩ := hk _ _ hkj
    have hq := he _ _ k1 k2 k3 k4
    refine Tot.bind (fun v => v = if x = a.at_ then (j : Int) else wx.edge) ?_ ?_
    · by_cases hxp : x = a.at_
      · rw [if_pos (by simpa using hxp), if_pos hxp]; exact Tot.pure rfl
      · rw [if_neg (by simpa using hxp), if_neg hxp]; exact Tot.pure rfl
    intro v hv
    rw [ci_ (by omega) (by omega)]
    cases hg : mget? W' (nx a.view.edges x j) with
    | none =>
      rw [ls_ hg]
      have hlen : (x :: t ++ N).length ≤ 300 := by
        have := mb_ a.view.edges.length W'
        omega
      simp only [Bool.not_false, if_true]
      rw [el_ (by simp only [List.length_singleton]; omega), Option.bind_some, Option.bind_some, Option.bind_some]
      simp only [if_true]
      refine Tot.pure ⟨N ++ [nx a.view.edges x j], by simp, II.set hB hx he hk hI hkj hv (.inl ⟨hg, rfl⟩), ?_⟩
      simp only
      rw [kc_ hq.1 hq.2 hg, hcn]
      simp; omega
    | some w =>
      rw [lr_ hg, hq_ hg]
      rw [if_neg (by simp), Option.bind_some, if_neg (by simp)]
      by_cases hc2 : w.steps = wx.steps + 1 ∧ v < w.edge
      · rw [if_pos (by simp [hc2.1]), Option.bind_some, if_pos (by simp [hc2.2])]
        refine Tot.pure ⟨N, rfl, II.set hB hx he hk hI hkj hv (.inr ⟨w, hg, hc2.1, hc2.2, rfl⟩), ?_⟩
        simp only
        rw [my_ hg, hcn]
      · have hcl : Cl a.view.edges (knS a.memory) a.at_ W' x wx j := by
          refine ⟨w, hg, fun hs => ?_⟩
          rw [← hv]
          apply Classical.byContradiction
          intro hlt
          exact hc2 ⟨hs, by omega⟩
        have hif : (if (w.steps == wx.steps + 1) = true then some (decide (v < w.edge)) else some false) = some false := by
          split
          · rename_i hs
            congr 1
            rw [decide_eq_false]
            intro hlt
            exact hc2 ⟨by simpa using hs, hlt⟩
          · rfl
        rw [hif, Option.bind_some, if_neg (by simp)]
        exact Tot.pure ⟨N, rfl, II.skip hI (fun _ => hcl), hcn⟩
  · rw [if_pos (by simpa using hkj)]
    exact Tot.pure ⟨N, rfl, II.skip hI (fun h => (hkj h).elim), hcn⟩
theorem na_ {a : Search_player} (hk : me_ a.view.edges (knS a.memory)) (he : ez_ a.view.edges) (hn : a.view.edges.length ≤ 300)
    (hr : ∀ r ∈ a.view.edges, r.length ≤ 100) (hp : 0 ≤ a.at_ ∧ a.at_ < a.view.edges.length) (hfr : ¬ Fr_ a.view.edges (knS a.memory) a.at_) (ht : 0 ≤ a.Mind.Turn ∧ a.Mind.Turn ≤ 99) :
    Tot (F81 a) (BackIs a.view.edges (knS a.memory) a.at_) := by
  unfold F81
  refine Tot.bind (fun s : List (Int × Search_way) × List Int => BO a.view.edges (knS a.memory) a.at_ s.1 []) ?_ ?_
  · refine cj_ (fun i (s : List (Int × Search_way) × List Int) => BO a.view.edges (knS a.memory) a.at_ s.1 s.2 ∧ kd_ a.view.edges.length s.1 = i + s.2.length) (fun s : List (Int × Search_way) × List Int => BO a.view.edges (knS a.memory) a.at_ s.1 []) (a.view.edges.length + 1) 0 (fq_ ([] : List (Int × Search_way)) a.at_ (⟨0, (-1)⟩ : Search_way), ([a.at_] : List Int)) ?_ ?_ ?_
    · have hg : ∀ q, mget? (fq_ ([] : gp_) a.at_ (⟨0, (-1)⟩ : Search_way)) q = if q = a.at_ then some ⟨0, -1⟩ else none := by
        intro q; rw [ch_]; rfl
      refine ⟨{ hp := ⟨⟨0, -1⟩, by rw [hg, if_pos rfl], rfl⟩, di := ?_, qin := ?_, nd := by simp, fe := ?_, pw := by simp, srt := ?_, cl := ?_ }, ?_⟩
      · intro q w hw
        simp only [hg] at hw
        split at hw
        · rename_i hq
          cases hw
          exact ⟨by rw [hq]; exact hp, 0, rfl, by rw [hq]; exact .zero⟩
        · cases hw
      · intro q hq
        simp only [List.mem_singleton] at hq
        exact ⟨⟨0, -1⟩, by simp only; rw [hg, if_pos hq]⟩
      · intro q w hw hne
        simp only [hg] at hw
        rw [if_neg hne] at hw; cases hw
      · intro x t wx hQ hx
        simp only [List.cons.injEq] at hQ
        obtain ⟨rfl, rfl⟩ := hQ
        refine ⟨by simp, ?_⟩
        intro q w hw hne
        simp only [hg] at hw
        rw [if_neg (by simpa using hne)] at hw; cases hw
      · intro q w hw hne
        simp only [hg] at hw
        rw [if_neg (by simpa using hne)] at hw; cases hw
      · simp only
        rw [kc_ hp.1 hp.2 rfl]
        have : kd_ a.view.edges.length [] = 0 := by
          unfold kd_
          apply List.countP_eq_zero.2
          intro q _; simp [cv_, mget?]
        rw [this]; rfl
    · rintro i ⟨W, Q⟩ _ hi ⟨hB, hc⟩
      simp only at hB hc ⊢
      cases Q with
      | nil =>
        right
        exact ⟨(W, []), by simp, hB⟩
      | cons x t =>
        left
        obtain ⟨wx, hx⟩ := hB.qin x (by simp)
        have ⟨hxr, _⟩ := hB.di x wx hx
        have hat : at? a.view.edges x = some (ba_ a.view.edges x) := ce_ [] hxr.1 hxr.2
        have hx0 : at? (x :: t) 0 = some x := rfl
        obtain ⟨s, h1, N, h2, h3, h4⟩ := mf_ hk he hn hr hB hx hc
        obtain ⟨W', Q'⟩ := s
        simp only at h2 h3 h4
        refine ⟨(W', t ++ N), ?_, hB.next hx rfl hk h3, ?_⟩
        · rw [if_pos (by simp), hx0, Option.bind_some, hat, Option.bind_some]
          rw [h1, Option.bind_some]
          simp only
          rw [h2, List.cons_append, ld_, Option.bind_some]
        · simp only
          rw [h4, h2]; simp; omega
    · rintro ⟨W, Q⟩ ⟨hB, hc⟩
      simp only at hB hc
      exfalso
      have := mb_ a.view.edges.length W
      omega
  rintro ⟨W, Q⟩ hB
  simp only at hB ⊢
  have ⟨hall, hmin⟩ := hB.final
  refine Tot.bind _ (Tot.forS (fun j (s : Int × Int) =>
    (s.1 = -1 ∧ s.2 = -1 ∧ ∀ k : Nat, k < j → Fr_ a.view.edges (knS a.memory) k → ∀ m, ¬ Di a.view.edges (knS a.memory) m a.at_ k) ∨
    ∃ (k : Nat) (w : Search_way), k < j ∧ mget? W (k : Int) = some w ∧ s.1 = w.steps ∧ s.2 = w.edge ∧ Fr_ a.view.edges (knS a.memory) k ∧ ∀ k' : Nat, k' < j → Fr_ a.view.edges (knS a.memory) k' → ∀ m' : Nat, Di a.view.edges (knS a.memory) m' a.at_ k' → w.steps < m' ∨ (w.steps = m' ∧ (k : Int) ≤ k')) (.inl ⟨rfl, rfl, fun k h => by omega⟩) ?_) ?_
  · rintro j ⟨s1, s2⟩ hj hI
    simp only at hI ⊢
    have skip : (∀ m : Nat, Fr_ a.view.edges (knS a.memory) j → Di a.view.edges (knS a.memory) m a.at_ j → s1 ≠ -1 ∧ s1 ≤ m) → ((s1 = -1 ∧ s2 = -1 ∧ ∀ k : Nat, k < j + 1 → Fr_ a.view.edges (knS a.memory) k → ∀ m, ¬ Di a.view.edges (knS a.memory) m a.at_ k) ∨
      ∃ (k : Nat) (w : Search_way), k < j + 1 ∧ mget? W (k : Int) = some w ∧ s1 = w.steps ∧ s2 = w.edge ∧ Fr_ a.view.edges (knS a.memory) k ∧ ∀ k' : Nat, k' < j + 1 → Fr_ a.view.edges (knS a.memory) k' → ∀ m' : Nat, Di a.view.edges (knS a.memory) m' a.at_ k' → w.steps < m' ∨ (w.steps = m' ∧ (k : Int) ≤ k')) := by
      intro hs
      rcases hI with ⟨h1, h2, h3⟩ | ⟨k, w, h1, h2, h3, h4, h5, h6⟩
      · refine .inl ⟨h1, h2, fun k hk' hf m hd => ?_⟩
        by_cases hkj : k = j
        · subst hkj; exact (hs m hf hd).1 h1
        · exact h3 k (by omega) hf m hd
      · refine .inr ⟨k, w, by omega, h2, h3, h4, h5, fun k' hk' hf m hd => ?_⟩
        by_cases hkj : k' = j
        · subst hkj; have := (hs m hf hd).2; omega
        · exact h6 k' (by omega) hf m hd
    have take : ∀ w, mget? W (j : Int) = some w → Fr_ a.view.edges (knS a.memory) j → (s1 = -1 ∨ w.steps < s1) → ((w.steps = -1 ∧ w.edge = -1 ∧ ∀ k : Nat, k < j + 1 → Fr_ a.view.edges (knS a.memory) k → ∀ m, ¬ Di a.view.edges (knS a.memory) m a.at_ k) ∨
      ∃ (k : Nat) (w' : Search_way), k < j + 1 ∧ mget? W (k : Int) = some w' ∧ w.steps = w'.steps ∧ w.edge = w'.edge ∧ Fr_ a.view.edges (knS a.memory) k ∧ ∀ k' : Nat, k' < j + 1 → Fr_ a.view.edges (knS a.memory) k' → ∀ m' : Nat, Di a.view.edges (knS a.memory) m' a.at_ k' → w'.steps < m' ∨ (w'.steps = m' ∧ (k : Int) ≤ k')) := by
      intro w hw hf hs
      have ⟨_, kw, hkw, hdw⟩ := hB.di _ _ hw
      refine .inr ⟨j, w, by omega, hw, rfl, rfl, hf, fun k' hk' hf' m hd => ?_⟩
      by_cases hkj : k' = j
      · subst hkj; have := hd.uniq hdw; omega
      · rcases hI with ⟨h1, h2, h3⟩ | ⟨k, w2, h1, h2, h3, h4, h5, h6⟩
        · exact (h3 k' (by omega) hf' m hd).elim
        · have ⟨_, k2, hk2, hd2⟩ := hB.di _ _ h2
          have := h6 k' (by omega) hf' m hd
          omega
    cases hg : mget? W (j : Int) with
    | none =>
      rw [ls_ hg, if_neg (by simp), Option.bind_some, if_neg (by simp)]
      refine Tot.pure (skip (fun m _ hd => ?_))
      obtain ⟨w, hw⟩ := hall _ _ hd.1
      rw [hg] at hw; cases hw
    | some w =>
      have ⟨_, kw, hkw, hdw⟩ := hB.di _ _ hg
      rw [lr_ hg, hq_ hg, if_pos rfl, nx_ (by omega) (by omega) (hr _ (eh_ _ (by omega) (by omega))) ht.1 ht.2, Option.bind_some]
      rcases dq_ a.view.edges (knS a.memory) j a.Mind.Turn with ⟨hf, hf'⟩ | ⟨hf, hf1, hf2⟩
      · rw [hf, if_neg (by simp), Option.bind_some, if_neg (by simp)]
        exact Tot.pure (skip (fun m hfr' _ => (hf' hfr').elim))
      · have hfr' : Fr_ a.view.edges (knS a.memory) j := ⟨_, hf, hf1, hf2⟩
        rw [if_pos (by simpa using hf)]
        by_cases hs : s1 = -1
        · rw [if_pos (by simp; omega), Option.bind_some, if_pos rfl]
          exact Tot.pure (take w hg hfr' (.inl hs))
        · have hs0 : 0 ≤ s1 := by
            rcases hI with ⟨h1, _⟩ | ⟨k, w2, h1, h2, h3, _⟩
            · exact (hs h1).elim
            · have ⟨_, k2, hk2, _⟩ := hB.di _ _ h2; omega
          rw [if_neg (by simp; omega), Option.bind_some]
          by_cases hlt : w.steps < s1
          · rw [if_pos (by simpa using hlt)]
            exact Tot.pure (take w hg hfr' (.inr hlt))
          · rw [if_neg (by simpa using hlt)]
            refine Tot.pure (skip (fun m _ hd => ⟨hs, ?_⟩))
            have := hd.uniq hdw; omega
  rintro ⟨s1, s2⟩ hI
  simp only at hI ⊢
  refine Tot.pure ?_
  rcases hI with ⟨h1, h2, h3⟩ | ⟨k, w, h1, h2, h3, h4, h5, h6⟩
  · refine .inl ⟨?_, h2⟩
    intro k q q0 q1 hf hd
    have := h3 q.toNat (by omega)
    rw [show ((q.toNat : Nat) : Int) = q by omega] at this
    exact this hf k hd
  · right
    have ⟨_, kw, hkw, hdw⟩ := hB.di _ _ h2
    obtain ⟨m, rfl⟩ : ∃ m, kw = m + 1 := by
      cases kw with
      | zero => have := hdw.1.zero; rw [this] at hfr; exact (hfr h5).elim
      | succ m => exact ⟨m, rfl⟩
    have hne : (k : Int) ≠ a.at_ := by
      intro e; rw [e] at h5; exact hfr h5
    obtain ⟨b1, m', b2, b3⟩ := hB.fe _ _ h2 hne
    have : m' = m := by omega
    subst this
    rw [h4]
    refine ⟨m', k, Near.of ⟨by omega, by omega⟩ h5 hdw ?_, ⟨b1, b3⟩, ?_⟩
    · intro j hj hf m2 hd
      have := h6 j hj hf m2 hd
      omega
    · intro i hi hw
      exact hmin m' k w i h2 hkw hi hw
end Go.Proofs.Ytogfongmnkmegaa.Pad
