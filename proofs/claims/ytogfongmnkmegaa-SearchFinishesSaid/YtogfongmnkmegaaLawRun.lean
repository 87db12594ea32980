/- The search: both give the run of a player. -/
import Derived.Test.YtogfongmnkmegaaLawStep
set_option linter.unusedVariables false
namespace Go.Proofs.Ytogfongmnkmegaa.Pad
open Go Go.Proofs
theorem gq_ {σ τ ρ ρ' : Type} {b : σ → Option (σ ⊕ ρ)} {c : τ → Option (τ ⊕ ρ')} (I : Nat → σ → τ → Prop) (E : ρ → ρ' → Prop) : ∀ (n i : Nat) (s : σ) (t : τ), I i s t →
    (∀ j s t, i ≤ j → j < i + n → I j s t → (∃ s' t', b s = some (.inl s') ∧ c t = some (.inl t') ∧ I (j + 1) s' t') ∨ ∃ r r', b s = some (.inr r) ∧ c t = some (.inr r') ∧ E r r') →
    (∀ s t, I (i + n) s t → ∃ r r', b s = some (.inr r) ∧ c t = some (.inr r') ∧ E r r') → ∃ r r', bw_ b s = some r ∧ bw_ c t = some r' ∧ E r r'
  | 0, i, s, t, h, _, e => by
    obtain ⟨r, r', h1, h2, h3⟩ := e s t h
    exact ⟨r, r', df_ h1, df_ h2, h3⟩
  | n + 1, i, s, t, h, st, e => by
    rcases st i s t (Nat.le_refl _) (by omega) h with ⟨s1, t1, h1, h2, h3⟩ | ⟨r, r', h1, h2, h3⟩
    · rw [fw_ h1, fw_ h2]
      exact gq_ I E n (i + 1) s1 t1 h3 (fun j s t a b c => st j s t (by omega) (by omega) c) (fun s t hs => e s t (by rwa [show i + (n + 1) = i + 1 + n by omega]))
    · exact ⟨r, r', df_ h1, df_ h2, h3⟩
inductive Run (E : List (List Edge)) (d : List Int) (m : Mind) : List Int → Int → List Search_gone → Prop
  | start : Run E d m [] 0 []
  | step {tr : List Int} {p : Int} {M : List Search_gone} {e : Int} : Run E d m tr p M → dA d p ≠ 0 → 0 < (ba_ E p).length → 0 ≤ e → e < (ba_ E p).length → ChooseIs E M p m.Turn e →
      Run E d m (tr ++ [e]) (nx E p e) (du_ m.Memory M p e)
theorem GoodMap.edges {g : Graph} {d : List Int} (h : GoodMap g d) : ez_ g.Edges := by
  intro p i a b c e
  have hr := h.row _ (dn_ (g := g) a b)
  have := hr.2 _ (eh_ z0 c e)
  have := h.el
  unfold nx; omega
theorem Run.ok {g : Graph} {d : List Int} {m : Mind} (hg : GoodMap g d) (hm : 0 ≤ m.Memory) {tr : List Int} {p : Int} {M : List Search_gone} (h : Run g.Edges d m tr p M) :
    MemOk g.Edges M ∧ (0 ≤ p ∧ p < g.Edges.length) ∧ (M.length : Int) ≤ m.Memory := by
  induction h with
  | start => exact ⟨⟨by simp, by simp⟩, ⟨by omega, by have := hg.el; have := hg.n1; omega⟩, by simpa using hm⟩
  | step h1 h2 h3 h4 h5 h6 ih =>
    obtain ⟨a, b, c⟩ := ih
    have := mt_ a b ⟨h4, h5⟩ c
    exact ⟨this.1, hg.edges _ _ b.1 b.2 h4 h5, this.2⟩
structure MindOk (m : Mind) : Prop where
  m0 : 0 ≤ m.Memory
  m1 : m.Memory ≤ 200
  t0 : 0 ≤ m.Turn
  t1 : m.Turn ≤ 99
theorem jf_ {g : Graph} {d : List Int} {m : Mind} {most : Int} (hg : GoodMap g d) (hm : MindOk m) (h0 : 0 ≤ most) (h1 : most ≤ 2000) :
    ∃ tr p M, Run g.Edges d m tr p M ∧ F46 ⟨g.Edges, d⟩ m most = some (tr, dA d p == 0) ∧ F48 g d m most = some (tr, dA d p == 0) ∧ (tr.length : Int) ≤ most ∧
      (dA d p = 0 ∨ (ba_ g.Edges p).length = 0 ∨ (tr.length : Int) = most) := by
  have hel := hg.el; have hdl := hg.dl; have n1 := hg.n1; have n2 := hg.n2
  unfold F46 F48
  have hmain := gq_ (b := fun (s1 : List Int × (List (List Edge)) × (List Int) × Int × Int × Int × List Search_gone) =>
 (((at? d s1.2.2.2.2.2.1).bind fun x45 =>
 if x45 != 0 then
 ((at? g.Edges s1.2.2.2.2.2.1).bind fun x46 =>
 if decide (0 < (x46.length : Int)) then
 (if decide ((s1.1.length : Int) < most) then
 (some (Sum.inl ()))
 else
 (some (Sum.inr (Sum.inr (s1.1, s1.2.1, s1.2.2.1, s1.2.2.2.1, s1.2.2.2.2.1, s1.2.2.2.2.2.1, s1.2.2.2.2.2.2)))))
 else
 (some (Sum.inr (Sum.inr (s1.1, s1.2.1, s1.2.2.1, s1.2.2.2.1, s1.2.2.2.2.1, s1.2.2.2.2.2.1, s1.2.2.2.2.2.2)))))
 else
 (some (Sum.inr (Sum.inr (s1.1, s1.2.1, s1.2.2.1, s1.2.2.2.1, s1.2.2.2.2.1, s1.2.2.2.2.2.1, s1.2.2.2.2.2.2))))) : Option (Unit ⊕ (_ ⊕ (List Int × (List (List Edge)) × (List Int) × Int × Int × Int × List Search_gone)))).bind fun ov19 => onL ov19 fun v19 =>
 (F68 (⟨(⟨s1.2.1, s1.2.2.1⟩ : Search_view), (⟨s1.2.2.2.1, s1.2.2.2.2.1⟩ : Mind), s1.2.2.2.2.2.1, s1.2.2.2.2.2.2⟩ : Search_player)).bind fun x47 =>
 (push? s1.1 ([x47] : List Int)).bind fun x48 =>
 (F69 (⟨(⟨s1.2.1, s1.2.2.1⟩ : Search_view), (⟨s1.2.2.2.1, s1.2.2.2.2.1⟩ : Mind), s1.2.2.2.2.2.1, s1.2.2.2.2.2.2⟩ : Search_player) x47).bind fun x49 =>
 some (Sum.inl (x48, x49.view.edges, x49.view.distances, x49.Mind.Memory, x49.Mind.Turn, x49.at_, x49.memory)))
   (c := fun (s1 : List Int × List Ref06_gone × Int) =>
 (((at? d s1.2.2).bind fun x153 =>
 if x153 != 0 then
 ((at? g.Edges s1.2.2).bind fun x154 =>
 if decide (0 < (x154.length : Int)) then
 (if decide ((s1.1.length : Int) < most) then
 (some (Sum.inl ()))
 else
 (some (Sum.inr (Sum.inr (s1.1, s1.2.1, s1.2.2)))))
 else
 (some (Sum.inr (Sum.inr (s1.1, s1.2.1, s1.2.2)))))
 else
 (some (Sum.inr (Sum.inr (s1.1, s1.2.1, s1.2.2))))) : Option (Unit ⊕ (_ ⊕ (List Int × List Ref06_gone × Int)))).bind fun ov59 => onL ov59 fun v59 =>
 (F70 g s1.2.1 s1.2.2 m.Turn).bind fun x155 =>
 ((if decide (x155 < 0) then
 ((F71 g s1.2.1 s1.2.2).bind fun x157 =>
 some x157)
 else
 (some x155)) : Option (Int)).bind fun v62 =>
 ((if decide (v62 < 0) then
 ((F72 s1.2.1 s1.2.2).bind fun x159 =>
 some x159)
 else
 (some v62)) : Option (Int)).bind fun v65 =>
 (((F73 s1.2.1 (⟨s1.2.2, v65⟩ : Ref06_gone)).bind fun x165 =>
 if decide (0 ≤ x165) then
 ((sub? s1.2.1 0 x165).bind fun x166 =>
 (push? ([] : List Ref06_gone) x166).bind fun x167 =>
 (sub? s1.2.1 (w64 (x165 + 1)) (s1.2.1.length : Int)).bind fun x168 =>
 (push? x167 x168).bind fun x169 =>
 some x169)
 else
 (some s1.2.1)) : Option (List Ref06_gone)).bind fun v68 =>
 (push? v68 ([(⟨s1.2.2, v65⟩ : Ref06_gone)] : List Ref06_gone)).bind fun x170 =>
 ((if decide (m.Memory < (x170.length : Int)) then
 ((sub? x170 1 (x170.length : Int)).bind fun x172 =>
 some x172)
 else
 (some x170)) : Option (List Ref06_gone)).bind fun v70 =>
 (push? s1.1 ([v65] : List Int)).bind fun x173 =>
 (at? g.Edges s1.2.2).bind fun x174 =>
 (at? x174 v65).bind fun x175 =>
 some (Sum.inl (x173, v70, x175.To)))
   (fun i s t => ∃ tr p M, Run g.Edges d m tr p M ∧ s = (tr, g.Edges, d, m.Memory, m.Turn, p, M) ∧ t = (tr, trM M, p) ∧ tr.length = i ∧ (i : Int) ≤ most)
   (fun s t => ∃ tr p M, Run g.Edges d m tr p M ∧ s = (tr, g.Edges, d, m.Memory, m.Turn, p, M) ∧ t = (tr, trM M, p) ∧ (tr.length : Int) ≤ most ∧ (dA d p = 0 ∨ (ba_ g.Edges p).length = 0 ∨ (tr.length : Int) = most))
   most.toNat 0 ([], g.Edges, d, m.Memory, m.Turn, 0, []) ([], [], 0) ⟨[], 0, [], .start, rfl, rfl, rfl, by omega⟩ ?_ ?_
  · obtain ⟨r, r', h2, h3, tr, p, M, hrun, rfl, rfl, hlen, hstop⟩ := hmain
    have hp := (hrun.ok hg hm.m0).2.1
    have hat : at? d p = some (dA d p) := ce_ 0 hp.1 (by omega)
    refine ⟨tr, p, M, hrun, ?_, ?_, hlen, hstop⟩
    · refine Eq.trans (congrArg (fun o => Option.bind o _) h2) ?_
      simp only [Option.bind_some, hat]
    · refine Eq.trans (congrArg (fun o => Option.bind o _) h3) ?_
      simp only [Option.bind_some, hat]
  · rintro i _ _ _ hi ⟨tr, p, M, hrun, rfl, rfl, rfl, hle⟩
    have ⟨hM, hp, hml⟩ := hrun.ok hg hm.m0
    have hat : at? d p = some (dA d p) := ce_ 0 hp.1 (by omega)
    have hatE : at? g.Edges p = some (ba_ g.Edges p) := ce_ [] hp.1 hp.2
    simp only [hat, hatE, Option.bind_some]
    by_cases hd : dA d p = 0
    · right
      simp only [hd, bne_self_eq_false, Bool.false_eq_true, if_false, Option.bind_some, onL]
      exact ⟨_, _, rfl, rfl, tr, p, M, hrun, rfl, rfl, hle, .inl hd⟩
    · have hd' : (dA d p != 0) = true := by simpa using hd
      have hlt' : decide ((tr.length : Int) < most) = true := by simp; omega
      simp only [hd', if_true]
      by_cases hne : 0 < (ba_ g.Edges p).length
      · left
        have hne' : decide (0 < ((ba_ g.Edges p).length : Int)) = true := by simpa using hne
        simp only [hne', hlt', if_true, Option.bind_some, onL]
        obtain ⟨e, x, v, c1, c2, c3, c4, c5, c6, c7⟩ := jn_ (a := ⟨⟨g.Edges, d⟩, ⟨m.Memory, m.Turn⟩, p, M⟩) hg rfl hM ⟨hm.t0, hm.t1⟩ hg.edges hp hne
        simp only at c2 c3 c4 c5 c6 c7
        have hs := F69_eq (a := ⟨⟨g.Edges, d⟩, ⟨m.Memory, m.Turn⟩, p, M⟩) (e := e) (E := g.Edges) rfl hp ⟨c5, c6⟩ (by have := hm.m1; simp only; omega)
        simp only at hs
        have hm1 := hm.m1
        have hnd : (trM M).Nodup := by
          refine List.Pairwise.map _ ?_ hM.nd
          intro a b hab e
          exact hab (jc_ e)
        have hrem := lh_ (x := ⟨p, e⟩) hnd (by simp; omega)
        rw [c1, Option.bind_some, el_ (by simp; omega), Option.bind_some, hs, Option.bind_some, c2, Option.bind_some, c3, Option.bind_some, c4, Option.bind_some, hrem, Option.bind_some, lx_]
        have hfl := List.length_filter_le (fun y => !decide (y = (⟨p, e⟩ : Search_gone))) M
        rw [el_ (by simp; omega), Option.bind_some]
        have hnext : ((if decide (m.Memory < ((trM (M.filter (fun y => !decide (y = (⟨p, e⟩ : Search_gone)))) ++ [(⟨p, e⟩ : Ref06_gone)]).length : Int)) then
            ((sub? (trM (M.filter (fun y => !decide (y = (⟨p, e⟩ : Search_gone)))) ++ [(⟨p, e⟩ : Ref06_gone)]) 1 ((trM (M.filter (fun y => !decide (y = (⟨p, e⟩ : Search_gone)))) ++ [(⟨p, e⟩ : Ref06_gone)]).length : Int)).bind fun x172 => some x172)
            else some (trM (M.filter (fun y => !decide (y = (⟨p, e⟩ : Search_gone)))) ++ [(⟨p, e⟩ : Ref06_gone)])) : Option (List Ref06_gone)) = some (trM (du_ m.Memory M p e)) := by
          unfold du_
          simp only [decide_eq_true_eq, List.length_append, List.length_map, List.length_singleton]
          split
          · unfold sub?
            rw [if_pos ⟨by omega, by omega, by simp⟩, Option.bind_some, List.take_of_length_le (by simp)]
            congr 1
            show List.drop 1 _ = List.map trG (List.drop 1 _)
            rw [List.map_drop, List.map_append]; rfl
          · congr 1
            show _ = List.map trG _
            rw [List.map_append]; rfl
        rw [hnext, Option.bind_some, el_ (by simp; omega), Option.bind_some, ce_ z0 c5 c6, Option.bind_some]
        exact ⟨_, _, rfl, rfl, tr ++ [e], nx g.Edges p e, du_ m.Memory M p e, .step hrun hd hne c5 c6 c7, rfl, rfl, by simp, by omega⟩
      · right
        have hne' : decide (0 < ((ba_ g.Edges p).length : Int)) = false := decide_eq_false (by omega)
        simp only [hne', Bool.false_eq_true, if_false, Option.bind_some, onL]
        exact ⟨_, _, rfl, rfl, tr, p, M, hrun, rfl, rfl, hle, .inr (.inl (by omega))⟩
  · rintro _ _ ⟨tr, p, M, hrun, rfl, rfl, hlen, hle⟩
    have ⟨hM, hp, hml⟩ := hrun.ok hg hm.m0
    have hat : at? d p = some (dA d p) := ce_ 0 hp.1 (by omega)
    have hatE : at? g.Edges p = some (ba_ g.Edges p) := ce_ [] hp.1 hp.2
    have hE : (tr.length : Int) = most := by omega
    have hnl : ¬ (tr.length : Int) < most := by omega
    simp only [hat, hatE, Option.bind_some]
    refine ⟨(tr, g.Edges, d, m.Memory, m.Turn, p, M), (tr, trM M, p), ?_, ?_, tr, p, M, hrun, rfl, rfl, by omega, .inr (.inr hE)⟩
    · simp only [hnl, decide_false, Bool.false_eq_true, if_false]
      split
      · split <;> rfl
      · rfl
    · simp only [hnl, decide_false, Bool.false_eq_true, if_false]
      split
      · split <;> rfl
      · rfl
end Go.Proofs.Ytogfongmnkmegaa.Pad
